import PyProof.Rows.All
import Wide.All
import OpenK.AllK
import Wide.FinOn
import HandS.ForMost
import HandS.ForExc
import HandS.ExcInit
import HandS.HeadHook1
import HandS.Strs
import KE.DataEq
import KE.KeyNested
import HandS.CallSlots
import HandS.Defaults
import HandS.EndBits
import HandS.HeadHook2
import KE.DataCmp
import HandS.TupAny
import HandS.Deep
import HandS.IsInst
import HandS.Wide
import HandS.WideBits
import HandS.Conv
import HandS.TupLe
import HandS.RaiseMore
import KE.SortCalls
import PyProof.ReprRoads
import KE.SortData
import HandS.ExcField
import HandS.Exc
import HandS.ExcOwn
import HandS.Dict
import HandS.Small
import KE.KStateDown
import HandS.Base
import HandS.Call
import HandS.Ends
import HandS.More
import HandS.Words
import HandS.WordsExc
import HandS.Head0
import HandS.Head1
import HandS.Head2
import HandS.HeadEnd
import HandS.Style
import HandS.Zip
import KE.LtData
import PyProof.Fits
import KE.GoesMore
import KE.GoesZip
import KE.GoesEnum
import HandS.HeadHook3
import HandS.Text
import KE.KIsAll
import KE.KTryMore
import HandS.ExcIs
import HandS.TupSets
import HandS.SortInts
import HandS.SetFor
import HandS.Set
import HandS.SetBool
import HandS.ExcCtx
import HandS.HotCalls
import HandS.ExcInitHot
import KE.KOpsOwn
import KE.DataFind
import HandS.Property
import OpenK.KOps
import OpenK.KMeth
import KE.KCallOwn
import HandS.Star
import OpenK.KCls
import PyProof.AttrMiss
import HandS.ClsMeth
import PyProof.TupleIter
import PyProof.WalksMore
import HandS.IterNext
import HandS.IterVal
import HandS.OwnIter
import OpenK.KMore
import PyProof.CompFree
import PySem.Challenge.RW_closereckoned_k42_events_by_form_and_ref
import KE.KTupSum
import HandS.RevRange
import KE.KDictDisplayH
section
set_option Elab.async false
set_option linter.all false
set_option maxRecDepth 100000
set_option maxHeartbeats 4000000
namespace Mir
open PySem PySem.Spec PyProof.Rows L2
abbrev D := PyData
/-- what is known of a class whose instances stand in data -/
structure InsOk (K : PySem.W.Frag) (C : Addr) : Prop where
  cl : Cls K C
  ha : PySem.W.findIn K (.ref C) "__class__" = some (some (.builtin "object.__class__"))
  hn : PySem.W.specialIn K (.builtin "object.__class__") "__get__" = some (some (.builtin "getset_descriptor.__get__"))
  htk : PySem.W.takesIn K (.builtin "object.__class__") = some true
  hm : PySem.W.mroIn K C (.type "object") = some true
  kit : ∀ t ∈ ["int", "bool", "tuple", "list", "str"], PySem.W.kitOne K (.ref C) (.type t) = some false
/-- views: tuples of tuples of naturals -/
abbrev Vw := List (List Nat)
def vwD (k : Vw) : PyData := .tuple (k.map fun x => .tuple (x.map fun n : Nat => .int (n : Int)))
/-- an entry of a dict with views for keys -/
abbrev XV := Vw × Addr × Value
def hV (v : Vw) : Int := reduceHash (Builtin.Tuple.tupleHashOf (v.map fun k => reduceHash (Builtin.Tuple.tupleHashOf (k.map fun n : Nat => hashInt (n : Int)))))
def entV (x : XV) : DictEntry := ⟨hV x.1, .ref x.2.1, x.2.2⟩
def DVO (p : Addr) (xs : List XV) : HO := .ext fun h => (p == sysModules) = false ∧ xs.length ≤ sizeLine ∧
  ∃ o es ep, h.get? p = some o ∧ o.ExactDict ∧ o.data = .dict es ep ∧ es.toList = xs.map entV ∧ (xs.map (·.1)).Nodup
mutual
/-- data in the heap; an instance of the module's class c stands as a dict with c ahead -/
inductive Dp (K : PySem.W.Frag) (H : Hp) : V → PyData → Prop
  | non : Dp K H .non .none
  | bl (b : Bool) : Dp K H (.bl b) (.bool b)
  | int (i : Int) : Dp K H (.int i) (.int i)
  | str (x : Str) : Dp K H (.str x) (.str x)
  | lst {a : Addr} {xs : List V} {ds : List PyData} : SqL K H a xs → DpAll K H xs ds → Dp K H (.ref a) (.list ds)
  | tup {a : Addr} {xs : List V} {ds : List PyData} : SqT K H a xs → DpAll K H xs ds → Dp K H (.ref a) (.tuple ds)
  | ins {c : Str} {a dx : Addr} {fs : List (Str × V)} {kvs : List (PyData × PyData)} : H a = some (.ins (He.ga K c) dx fs) → InsOk K (He.ga K c) → DpKv K H fs kvs → Dp K H (.ref a) (.dict ((.str c, .none) :: kvs))
  | dk {a : Addr} {vs : List (Key × V)} {kvs : List (PyData × PyData)} : H a = some (.dK vs) → DpKi K H vs kvs → Dp K H (.ref a) (.dict ((.none, .none) :: kvs))
  | dv {a : Addr} {xs : List XV} {kvs : List (PyData × PyData)} : H a = some (DVO a xs) → (xs.map (·.1)).Nodup → DpVi K H xs kvs → Dp K H (.ref a) (.dict ((.none, .bool true) :: kvs))
inductive DpAll (K : PySem.W.Frag) (H : Hp) : List V → List PyData → Prop
  | nil : DpAll K H [] []
  | cons {v : V} {vs : List V} {d : PyData} {ds : List PyData} : Dp K H v d → DpAll K H vs ds → DpAll K H (v :: vs) (d :: ds)
inductive DpKv (K : PySem.W.Frag) (H : Hp) : List (Str × V) → List (PyData × PyData) → Prop
  | nil : DpKv K H [] []
  | cons {f : Str} {v : V} {fs : List (Str × V)} {d : PyData} {kvs : List (PyData × PyData)} : Dp K H v d → DpKv K H fs kvs → DpKv K H ((f, v) :: fs) ((.str f, d) :: kvs)
/-- a dict with ints for keys, changed no more -/
inductive DpKi (K : PySem.W.Frag) (H : Hp) : List (Key × V) → List (PyData × PyData) → Prop
  | nil : DpKi K H [] []
  | cons {i : Int} {v : V} {vs : List (Key × V)} {d : PyData} {kvs : List (PyData × PyData)} : Dp K H v d → DpKi K H vs kvs → DpKi K H ((.inl i, v) :: vs) ((.int i, d) :: kvs)
/-- a dict with views for keys, changed no more -/
inductive DpVi (K : PySem.W.Frag) (H : Hp) : List XV → List (PyData × PyData) → Prop
  | nil : DpVi K H [] []
  | cons {k : Vw} {b : Addr} {u : Value} {v : V} {xs : List XV} {d : PyData} {kvs : List (PyData × PyData)} : Dp K H (.ref b) (vwD k) → RelV v u → Dp K H v d → DpVi K H xs kvs → DpVi K H ((k, b, u) :: xs) ((vwD k, d) :: kvs)
end
section
variable {X : Cx} {pins : List (Addr × Obj)} {σ : L2.St} {H : Hp} {s : Shared}
mutual
/-- data without instances are the library's -/
theorem Dp.toL {K : PySem.W.Frag} {H : Hp} : ∀ (d : PyData) (v : V), PyData.plain d = true → Dp K H v d → L2.Dp K H v d
  | .none, _, _, h => by cases h; exact .non
  | .bool b, _, _, h => by cases h; exact .bl b
  | .int i, _, _, h => by cases h; exact .int i
  | .str x, _, _, h => by cases h; exact .str x
  | .list ds, _, p, h => by
    cases h with
    | lst hs ha => exact .lst hs (Dp.toLs ds _ (by simpa [PyData.plain] using p) ha)
  | .tuple ds, _, p, h => by
    cases h with
    | tup hs ha => exact .tup hs (Dp.toLs ds _ (by simpa [PyData.plain] using p) ha)
  | .dict _, _, p, _ => by simp [PyData.plain] at p
theorem Dp.toLs {K : PySem.W.Frag} {H : Hp} : ∀ (ds : List PyData) (vs : List V), PyData.plainAll ds = true → DpAll K H vs ds → L2.DpAll K H vs ds
  | [], _, _, h => by cases h; exact .nil
  | d :: ds, _, p, h => by
    have p' : PyData.plain d = true ∧ PyData.plainAll ds = true := by simpa [PyData.plainAll] using p
    cases h with
    | cons h1 h2 => exact .cons (Dp.toL d _ p'.1 h1) (Dp.toLs ds _ p'.2 h2)
end
theorem Dp.reads (I : Inv X pins σ H s) (d : PyData) (v : V) (u : Value) (h : Dp X.K H v d) (r : RelV v u) (p : PyData.plain d = true) : ∃ as, Reads s.heap u d as := L2.Dp.reads I d v u (Dp.toL d v p h) r
end
/-- an answer, an error of the program's own (class, fields, the last one stored first), or nothing is said -/
inductive Rs (A : Type) where
  | ok (a : A)
  | err (c : Str) (fs : List (Str × D))
  | stk
/-- what a def owns and may change: a list; the source of draws -/
inductive MO where
  | lst (ds : List D)
  | src (cells : List Int) (turn : Int)
  /-- a list that was handed in, or is handed on -/
  | dl (ds : List D)
  /-- a dict with ints for keys -/
  | dk (kvs : List (Int × D))
  /-- a dict with tuples of ints for keys -/
  | dt (kvs : List (List Int × D))
  /-- .. views -/
  | dv (kvs : List (Vw × D))
  /-- a list of lists, all its own -/
  | ll (ess : List (List D))
  /-- .. handed in as the second argument -/
  | bl (ess : List (List D))
  /-- an instance that is being made: its class, its fields -/
  | iv (c : Str) (kvs : List (D × D))
  /-- a set of ints -/
  | st (w : World) (ns : List Int)
  /-- a range -/
  | rg (lo hi : Int)
/-- what a def may change for its caller -/
def MO.pin : MO → Bool
  | .lst _ => false
  | .ll _ => false
  | .st _ _ => false
  | .rg _ _ => false
  | _ => true
/-- the slots at which it may stand so -/
def MO.pin1 : MO → Bool
  | .bl _ => true
  | _ => false
def MO.pinS (mo : MO) (i : Nat) : Prop := (i = 0 ∧ mo.pin = true) ∨ (i = 1 ∧ mo.pin1 = true)
theorem MO.pinS_0 {mo : MO} (h : mo.pin = true) : mo.pinS 0 := .inl ⟨rfl, h⟩
theorem MO.pin_1 {mo : MO} (h : mo.pin1 = true) : mo.pin = true := by
  cases mo with
  | bl ess => rfl
  | lst ds => cases h
  | src c t => cases h
  | dl ds => cases h
  | dk kvs => cases h
  | dt kvs => cases h
  | dv kvs => cases h
  | ll ess => cases h
  | iv c kvs => cases h
  | st w ns => cases h
  | rg lo hi => cases h
theorem MO.pinS_p {mo : MO} {i : Nat} (h : mo.pinS i) : mo.pin = true := h.elim (fun h => h.2) fun h => MO.pin_1 h.2
inductive SV where
  | un
  | dat (d : D)
  | own (o : MO)
abbrev En := List SV
inductive Fl where
  | nx | bk | ct
  | rt (d : D)
abbrev Em := En → Rs (D × En)
abbrev Tm := En → Rs (Bool × En)
abbrev Am := En → Rs (List D × En)
abbrev Im := En → Rs (List D × En)
abbrev Gm := D → En → Rs En
abbrev Sm := En → Rs (Fl × En)
section
variable {K : PySem.W.Frag} {G G' : Hp}
theorem seqT_mono {a : Addr} {xs : List V} (e : Same G G') (h : SqT K G a xs) : SqT K G' a xs := by
  rcases h with (h | ⟨o, h⟩) | h
  · exact .inl (.inl (e _ _ h))
  · exact .inl (.inr ⟨o, e _ _ h⟩)
  · exact .inr h
theorem dp_mono (e : Same G G') : ∀ (d : D) (v : V), Dp K G v d → Dp K G' v d := fun d v h =>
  Dp.rec (motive_1 := fun v d _ => Dp K G' v d) (motive_2 := fun vs ds _ => DpAll K G' vs ds) (motive_3 := fun fs kvs _ => DpKv K G' fs kvs) (motive_4 := fun vs kvs _ => DpKi K G' vs kvs) (motive_5 := fun xs kvs _ => DpVi K G' xs kvs)
    .non .bl .int .str (fun hs _ ha => .lst (e.seq hs) ha) (fun hs _ ha => .tup (seqT_mono e hs) ha) (fun ha hk _ hv => .ins (e _ _ ha) hk hv) (fun ha _ hv => .dk (e _ _ ha) hv) (fun ha nd _ hv => .dv (e _ _ ha) nd hv)
    .nil (fun _ _ h1 h2 => .cons h1 h2) .nil (fun _ _ h1 h2 => .cons h1 h2) .nil (fun _ _ h1 h2 => .cons h1 h2) .nil (fun _ r _ _ h1 h2 h3 => .cons h1 r h2 h3) h
theorem dpa_mono (e : Same G G') : ∀ (ds : List D) (vs : List V), DpAll K G vs ds → DpAll K G' vs ds
  | [], _, h => by cases h; exact .nil
  | d :: ds, _, h => by
    cases h with
    | cons h1 h2 => exact .cons (dp_mono e d _ h1) (dpa_mono e ds _ h2)
theorem dpk_mono (e : Same G G') : ∀ {fs : List (Str × V)} {kvs : List (D × D)}, DpKv K G fs kvs → DpKv K G' fs kvs
  | _, _, .nil => .nil
  | _, _, .cons h t => .cons (dp_mono e _ _ h) (dpk_mono e t)
theorem dpa_len : ∀ {vs : List V} {ds : List D}, DpAll K G vs ds → vs.length = ds.length
  | _, _, .nil => rfl
  | _, _, .cons _ t => by rw [List.length_cons, List.length_cons, dpa_len t]
theorem dpa_get : ∀ {vs : List V} {ds : List D} {i : Nat} {d : D}, DpAll K G vs ds → ds[i]? = some d → ∃ v, vs[i]? = some v ∧ Dp K G v d
  | _, _, _, _, .nil, e => by simp at e
  | _, _, 0, _, .cons h _, e => by simp at e; subst e; exact ⟨_, rfl, h⟩
  | _, _, i + 1, d, .cons _ t, e => by
    obtain ⟨v, h1, h2⟩ := dpa_get (i := i) (d := d) t (by simpa using e)
    exact ⟨v, by simpa using h1, h2⟩
theorem dpa_app : ∀ {vs ws : List V} {ds es : List D}, DpAll K G vs ds → DpAll K G ws es → DpAll K G (vs ++ ws) (ds ++ es)
  | _, _, _, _, .nil, h => h
  | _, _, _, _, .cons a t, h => .cons a (dpa_app t h)
theorem dpa_one {v : V} {d : D} (h : Dp K G v d) : DpAll K G [v] [d] := .cons h .nil
theorem dpa_set : ∀ {vs : List V} {ds : List D} {v : V} {d : D} (i : Nat), DpAll K G vs ds → Dp K G v d → DpAll K G (vs.set i v) (ds.set i d)
  | _, _, _, _, _, .nil, _ => .nil
  | _, _, _, _, 0, .cons _ t, h => .cons h t
  | _, _, _, _, i + 1, .cons a t, h => .cons a (dpa_set i t h)
theorem dpa_take : ∀ {vs : List V} {ds : List D} (n : Nat), DpAll K G vs ds → DpAll K G (vs.take n) (ds.take n)
  | _, _, 0, _ => .nil
  | _, _, _ + 1, .nil => .nil
  | _, _, n + 1, .cons a t => .cons a (dpa_take n t)
theorem dpa_drop : ∀ {vs : List V} {ds : List D} (n : Nat), DpAll K G vs ds → DpAll K G (vs.drop n) (ds.drop n)
  | _, _, 0, h => h
  | _, _, _ + 1, .nil => .nil
  | _, _, n + 1, .cons _ t => dpa_drop n t
theorem dpa_of_ints : ∀ (ns : List Int), DpAll K G (ns.map V.int) (ns.map PyData.int)
  | [] => .nil
  | n :: ns => .cons (.int n) (dpa_of_ints ns)
theorem dpa_bools : ∀ {vs : List V} {bs : List Bool}, DpAll K G vs (bs.map PyData.bool) → vs = bs.map V.bl
  | vs, [], h => by cases h; rfl
  | vs, n :: ns, h => by
    cases h with
    | cons a t => cases a; rw [dpa_bools t]; rfl
theorem same_upd {H : Hp} {p : Addr} {o : HO} (h : H p = none) : Same H (upd H p o) := fun b x e => by
  rw [upd_ne (ne_of_none e h)]
  exact e
end
structure Fm where
  G0 : Hp
  H0 : Hp
  Z : Addr → Prop
  p0 : Nat → V
  as0 : Nat → List Addr
def KvAll (K : PySem.W.Frag) (G : Hp) (vs : List (Key × V)) (kvs : List (Int × D)) : Prop := Paired (fun p q => p.1 = Sum.inl q.1 ∧ Dp K G p.2 q.2) vs kvs
/-- a dict's entry, its key a tuple of ints -/
def EK (x : List Int × Addr × Value) : DictEntry := ⟨reduceHash (Builtin.Tuple.tupleHashOf (x.1.map hashInt)), .ref x.2.1, x.2.2⟩
/-- a dict with tuples of ints for keys -/
def DTO (p : Addr) (xs : List (List Int × Addr × Value)) : HO := .ext fun h => (p == sysModules) = false ∧ xs.length ≤ sizeLine ∧
  ∃ o es ep, h.get? p = some o ∧ o.ExactDict ∧ o.data = .dict es ep ∧ es.toList = xs.map EK ∧ (xs.map (·.1)).Nodup
def TvAll (K : PySem.W.Frag) (G : Hp) (xs : List (List Int × Addr × Value)) (kvs : List (List Int × D)) : Prop :=
  Paired (fun p q => p.1 = q.1 ∧ SqT K G p.2.1 (p.1.map V.int) ∧ ∃ v, RelV v p.2.2 ∧ Dp K G v q.2) xs kvs
def TvV (K : PySem.W.Frag) (G : Hp) (xs : List XV) (kvs : List (Vw × D)) : Prop :=
  Paired (fun p q => p.1 = q.1 ∧ Dp K G (.ref p.2.1) (vwD p.1) ∧ ∃ v, RelV v p.2.2 ∧ Dp K G v q.2) xs kvs
/-- a row of a list of lists -/
def LRow (K : PySem.W.Frag) (G H : Hp) (r : Addr) (es : List D) : Prop := ∃ vs, G r = none ∧ H r = some (.lst vs) ∧ DpAll K G vs es
/-- at v the owned thing mo stands, at the addresses as -/
def Own (K : PySem.W.Frag) (G H : Hp) (v : V) : MO → List Addr → Prop
  | .lst ds, as => ∃ p vs, v = .ref p ∧ as = [p] ∧ G p = none ∧ H p = some (.lst vs) ∧ DpAll K G vs ds
  | .src cells turn, as => ∃ p c, v = .ref p ∧ as = [p, c] ∧ p ≠ c ∧ G p = none ∧ G c = none ∧
      H p = some (.dK [(.inr "cells", .ref c), (.inr "turn", .int turn)]) ∧ H c = some (.lst (cells.map V.int))
  | .dl ds, as => ∃ p vs, v = .ref p ∧ as = [p] ∧ G p = none ∧ H p = some (.lst vs) ∧ DpAll K G vs ds
  | .dk kvs, as => ∃ p vs, v = .ref p ∧ as = [p] ∧ G p = none ∧ H p = some (.dK vs) ∧ KvAll K G vs kvs
  | .dt kvs, as => ∃ p vs, v = .ref p ∧ as = [p] ∧ G p = none ∧ H p = some (DTO p vs) ∧ TvAll K G vs kvs
  | .dv kvs, as => ∃ p vs, v = .ref p ∧ as = [p] ∧ G p = none ∧ H p = some (DVO p vs) ∧ (vs.map (·.1)).Nodup ∧ TvV K G vs kvs
  | .ll ess, as => ∃ p rs, v = .ref p ∧ as = p :: rs ∧ (p :: rs).Nodup ∧ G p = none ∧ H p = some (.lst (rs.map V.ref)) ∧ Paired (LRow K G H) rs ess
  | .bl ess, as => ∃ p rs, v = .ref p ∧ as = p :: rs ∧ (p :: rs).Nodup ∧ G p = none ∧ H p = some (.lst (rs.map V.ref)) ∧ Paired (LRow K G H) rs ess
  | .iv c kvs, as => ∃ p dx fs, v = .ref p ∧ as = [p] ∧ G p = none ∧ H p = some (.ins (He.ga K c) dx fs) ∧ DpKv K G fs kvs
  | .st w ns, as => ∃ p S, v = .ref p ∧ as = [p] ∧ G p = none ∧ H p = some (SetO w p S ns.length) ∧ ns.Nodup ∧ ∀ i, S i = true ↔ i ∈ ns
  | .rg lo hi, as => ∃ p, v = .ref p ∧ as = [p] ∧ G p = none ∧ H p = some (.rng lo hi)
structure Gf (F : Fm) (G H : Hp) : Prop where
  g0 : Same F.G0 G
  gh : Same G H
  nf : ∀ a, F.H0 a ≠ none → F.G0 a = none → ¬ F.Z a → G a = none
  pres : ∀ a o, F.H0 a = some o → ¬ F.Z a → H a = some o
  live : ∀ a, F.H0 a ≠ none → H a ≠ none
def SlotOk (K : PySem.W.Frag) (F : Fm) (G H : Hp) (om : Addr → Nat) (i : Nat) (x : Option (Option V)) : SV → Prop
  | .un => True
  | .dat d => ∃ v, x = some (some v) ∧ Dp K G v d
  | .own mo => ∃ v as, x = some (some v) ∧ Own K G H v mo as ∧ ∀ a ∈ as, om a = i ∧ (F.Z a ∨ F.H0 a = none)
structure Gd (K : PySem.W.Frag) (F : Fm) (G H : Hp) (σ : L2.St) (en : En) : Prop where
  gf : Gf F G H
  len : en.length = σ.length
  sat : ∃ om : Addr → Nat, ∀ i sv, en[i]? = some sv → SlotOk K F G H om i σ[i]? sv
  pin : ∀ (i : Nat) (mo : MO), mo.pinS i → en[i]? = some (.own mo) → σ[i]? = some (some (F.p0 i)) ∧ Own K G H (F.p0 i) mo (F.as0 i)
/-- an entry at which nothing may be changed -/
def F0 (G H : Hp) : Fm := ⟨G, H, fun _ => False, fun _ => .non, fun _ => []⟩
def FsOk (K : PySem.W.Frag) (G : Hp) : List (Str × V) → List (Str × D) → Prop := Paired fun p q => p.1 = q.1 ∧ Dp K G p.2 q.2
def ErrAt (K : PySem.W.Frag) (mg : Str → Option Value) (F : Fm) (c : Str) (fs : List (Str × D)) (cls : Value) (dx : Option Addr) (H' : Hp) : Prop :=
  ∃ C d xs G', cls = .ref C ∧ mg c = some (.ref C) ∧ dx = some d ∧ Gf F G' H' ∧ F.H0 d = none ∧ G' d = none ∧ H' d = some (.xd xs) ∧ FsOk K G' xs fs
section
variable {K : PySem.W.Frag} {mg : Str → Option Value} {F F' : Fm} {G H G' H' : Hp} {σ : L2.St} {en : En}
theorem Gf.comp (g : Gf F G H) (f : Gf F' G' H') (e1 : F'.G0 = G) (e2 : F'.H0 = H) (z : ∀ a, F'.Z a → F.Z a ∨ F.H0 a = none) : Gf F G' H' := by
  subst e1; subst e2
  have hn : ∀ a, F.H0 a ≠ none → F'.H0 a ≠ none := g.live
  have hz : ∀ a, F.H0 a ≠ none → ¬ F.Z a → ¬ F'.Z a := fun a h n q => by
    rcases z a q with x | x
    · exact n x
    · exact h x
  refine ⟨g.g0.trans f.g0, f.gh, fun a h1 h2 h3 => f.nf a (hn a h1) (g.nf a h1 h2 h3) (hz a h1 h3), fun a o h1 h2 => ?_, fun a h => f.live a (hn a h)⟩
  have h1' : F.H0 a ≠ none := by rw [h1]; exact fun q => by cases q
  exact f.pres a o (g.pres a o h1 h2) (hz a h1' h2)
theorem Gf.refl (G H : Hp) (Z : Addr → Prop) (p : Nat → V) (as : Nat → List Addr) (gh : Same G H) : Gf ⟨G, H, Z, p, as⟩ G H :=
  ⟨Same.refl _, gh, fun _ _ h _ => h, fun _ _ h _ => h, fun _ h => h⟩
theorem kv_mono (g : Same G G') : ∀ {vs : List (Key × V)} {kvs : List (Int × D)}, KvAll K G vs kvs → KvAll K G' vs kvs
  | _, _, .nil => .nil
  | _, _, .cons a t => .cons ⟨a.1, dp_mono g _ _ a.2⟩ (kv_mono g t)
theorem tv_mono (g : Same G G') : ∀ {vs : List (List Int × Addr × Value)} {kvs : List (List Int × D)}, TvAll K G vs kvs → TvAll K G' vs kvs
  | _, _, .nil => .nil
  | _, _, .cons ⟨a1, a2, v, a3, a4⟩ t => .cons ⟨a1, seqT_mono g a2, v, a3, dp_mono g _ _ a4⟩ (tv_mono g t)
theorem tvv_mono (g : Same G G') : ∀ {vs : List XV} {kvs : List (Vw × D)}, TvV K G vs kvs → TvV K G' vs kvs
  | _, _, .nil => .nil
  | _, _, .cons ⟨a1, a2, v, a3, a4⟩ t => .cons ⟨a1, dp_mono g _ _ a2, v, a3, dp_mono g _ _ a4⟩ (tvv_mono g t)
theorem lrow_keep (g : Same G G') : ∀ {rs : List Addr} {ess : List (List D)}, (∀ a ∈ rs, G' a = none) → (∀ a ∈ rs, ∀ x, H a = some x → H' a = some x) → Paired (LRow K G H) rs ess → Paired (LRow K G' H') rs ess
  | _, _, _, _, .nil => .nil
  | _, _, n, h, .cons ⟨vs, h1, h2, h3⟩ t => .cons ⟨vs, n _ List.mem_cons_self, h _ List.mem_cons_self _ h2, dpa_mono g _ _ h3⟩ (lrow_keep g (fun a m => n a (List.mem_cons_of_mem _ m)) (fun a m => h a (List.mem_cons_of_mem _ m)) t)
theorem lrow_live : ∀ {rs : List Addr} {ess : List (List D)}, Paired (LRow K G H) rs ess → ∀ a ∈ rs, H a ≠ none ∧ G a = none
  | _, _, .nil, a, m => by cases m
  | _, _, .cons ⟨vs, h1, h2, h3⟩ t, a, m => by
    rcases List.mem_cons.mp m with rfl | m
    · exact ⟨by rw [h2]; exact (fun q => by cases q), h1⟩
    · exact lrow_live t a m
theorem refs_inj : ∀ {xs ys : List Addr}, xs.map V.ref = ys.map V.ref → xs = ys
  | [], [], _ => rfl
  | [], _ :: _, h => by cases h
  | _ :: _, [], h => by cases h
  | x :: xs, y :: ys, h => by
    injection h with h1 h2
    injection h1 with h1
    rw [h1, refs_inj h2]
/-- what an owned thing leans on -/
theorem Own.keep {v : V} {mo : MO} {as : List Addr} (o : Own K G H v mo as) (g : Same G G') (n : ∀ a ∈ as, G' a = none) (h : ∀ a ∈ as, ∀ x, H a = some x → H' a = some x) : Own K G' H' v mo as := by
  cases mo with
  | lst ds =>
    obtain ⟨p, vs, e1, e2, e3, e4, e5⟩ := o
    subst e2
    exact ⟨p, vs, e1, rfl, n p (by simp), h p (by simp) _ e4, dpa_mono g _ _ e5⟩
  | src cells turn =>
    obtain ⟨p, c, e1, e2, e3, e4, e5, e6, e7⟩ := o
    subst e2
    exact ⟨p, c, e1, rfl, e3, n p (by simp), n c (by simp), h p (by simp) _ e6, h c (by simp) _ e7⟩
  | dl ds =>
    obtain ⟨p, vs, e1, e2, e3, e4, e5⟩ := o
    subst e2
    exact ⟨p, vs, e1, rfl, n p (by simp), h p (by simp) _ e4, dpa_mono g _ _ e5⟩
  | dk kvs =>
    obtain ⟨p, vs, e1, e2, e3, e4, e5⟩ := o
    subst e2
    exact ⟨p, vs, e1, rfl, n p (by simp), h p (by simp) _ e4, kv_mono g e5⟩
  | dt kvs =>
    obtain ⟨p, vs, e1, e2, e3, e4, e5⟩ := o
    subst e2
    exact ⟨p, vs, e1, rfl, n p (by simp), h p (by simp) _ e4, tv_mono g e5⟩
  | dv kvs =>
    obtain ⟨p, vs, e1, e2, e3, e4, nd, e5⟩ := o
    subst e2
    exact ⟨p, vs, e1, rfl, n p (by simp), h p (by simp) _ e4, nd, tvv_mono g e5⟩
  | ll ess =>
    obtain ⟨p, rs, e1, e2, nd, e3, e4, e5⟩ := o
    subst e2
    exact ⟨p, rs, e1, rfl, nd, n p List.mem_cons_self, h p List.mem_cons_self _ e4, lrow_keep g (fun a m => n a (List.mem_cons_of_mem _ m)) (fun a m => h a (List.mem_cons_of_mem _ m)) e5⟩
  | bl ess =>
    obtain ⟨p, rs, e1, e2, nd, e3, e4, e5⟩ := o
    subst e2
    exact ⟨p, rs, e1, rfl, nd, n p List.mem_cons_self, h p List.mem_cons_self _ e4, lrow_keep g (fun a m => n a (List.mem_cons_of_mem _ m)) (fun a m => h a (List.mem_cons_of_mem _ m)) e5⟩
  | iv c kvs =>
    obtain ⟨p, dx, fs, e1, e2, e3, e4, e5⟩ := o
    subst e2
    exact ⟨p, dx, fs, e1, rfl, n p (by simp), h p (by simp) _ e4, dpk_mono g e5⟩
  | st w ns =>
    obtain ⟨p, S, e1, e2, e3, e4, e5⟩ := o
    subst e2
    exact ⟨p, S, e1, rfl, n p (by simp), h p (by simp) _ e4, e5⟩
  | rg lo hi =>
    obtain ⟨p, e1, e2, e3, e4⟩ := o
    subst e2
    exact ⟨p, e1, rfl, n p (by simp), h p (by simp) _ e4⟩
theorem Own.live {v : V} {mo : MO} {as : List Addr} (o : Own K G H v mo as) : ∀ a ∈ as, H a ≠ none ∧ G a = none := by
  intro a ha
  cases mo with
  | lst ds =>
    obtain ⟨p, vs, e1, e2, e3, e4, e5⟩ := o
    subst e2
    have : a = p := by simpa using ha
    subst this
    exact ⟨by rw [e4]; exact (fun q => by cases q), e3⟩
  | src cells turn =>
    obtain ⟨p, c, e1, e2, e3, e4, e5, e6, e7⟩ := o
    subst e2
    have : a = p ∨ a = c := by simpa using ha
    rcases this with rfl | rfl
    · exact ⟨by rw [e6]; exact (fun q => by cases q), e4⟩
    · exact ⟨by rw [e7]; exact (fun q => by cases q), e5⟩
  | dl ds =>
    obtain ⟨p, vs, e1, e2, e3, e4, e5⟩ := o
    subst e2
    have : a = p := by simpa using ha
    subst this
    exact ⟨by rw [e4]; exact (fun q => by cases q), e3⟩
  | dk kvs =>
    obtain ⟨p, vs, e1, e2, e3, e4, e5⟩ := o
    subst e2
    have : a = p := by simpa using ha
    subst this
    exact ⟨by rw [e4]; exact (fun q => by cases q), e3⟩
  | dt kvs =>
    obtain ⟨p, vs, e1, e2, e3, e4, e5⟩ := o
    subst e2
    have : a = p := by simpa using ha
    subst this
    exact ⟨by rw [e4]; exact (fun q => by cases q), e3⟩
  | dv kvs =>
    obtain ⟨p, vs, e1, e2, e3, e4, _, e5⟩ := o
    subst e2
    have : a = p := by simpa using ha
    subst this
    exact ⟨by rw [e4]; exact (fun q => by cases q), e3⟩
  | ll ess =>
    obtain ⟨p, rs, e1, e2, nd, e3, e4, e5⟩ := o
    subst e2
    rcases List.mem_cons.mp ha with rfl | m
    · exact ⟨by rw [e4]; exact (fun q => by cases q), e3⟩
    · exact lrow_live e5 a m
  | bl ess =>
    obtain ⟨p, rs, e1, e2, nd, e3, e4, e5⟩ := o
    subst e2
    rcases List.mem_cons.mp ha with rfl | m
    · exact ⟨by rw [e4]; exact (fun q => by cases q), e3⟩
    · exact lrow_live e5 a m
  | iv c kvs =>
    obtain ⟨p, dx, fs, e1, e2, e3, e4, e5⟩ := o
    subst e2
    have : a = p := by simpa using ha
    subst this
    exact ⟨by rw [e4]; exact (fun q => by cases q), e3⟩
  | st w ns =>
    obtain ⟨p, S, e1, e2, e3, e4, e5⟩ := o
    subst e2
    have : a = p := by simpa using ha
    subst this
    exact ⟨by rw [e4]; exact (fun q => by cases q), e3⟩
  | rg lo hi =>
    obtain ⟨p, e1, e2, e3, e4⟩ := o
    subst e2
    have : a = p := by simpa using ha
    subst this
    exact ⟨by rw [e4]; exact (fun q => by cases q), e3⟩
theorem Own.inj {v : V} {mo : MO} {as as' : List Addr} (o : Own K G H v mo as) (o' : Own K G H v mo as') : as = as' := by
  cases mo with
  | lst ds =>
    obtain ⟨p, vs, rfl, rfl, _⟩ := o
    obtain ⟨p', vs', e, rfl, _⟩ := o'
    cases e; rfl
  | dl ds =>
    obtain ⟨p, vs, rfl, rfl, _⟩ := o
    obtain ⟨p', vs', e, rfl, _⟩ := o'
    cases e; rfl
  | dk kvs =>
    obtain ⟨p, vs, rfl, rfl, _⟩ := o
    obtain ⟨p', vs', e, rfl, _⟩ := o'
    cases e; rfl
  | dt kvs =>
    obtain ⟨p, vs, rfl, rfl, _⟩ := o
    obtain ⟨p', vs', e, rfl, _⟩ := o'
    cases e; rfl
  | dv kvs =>
    obtain ⟨p, vs, rfl, rfl, _⟩ := o
    obtain ⟨p', vs', e, rfl, _⟩ := o'
    cases e; rfl
  | src cells turn =>
    obtain ⟨p, c, rfl, rfl, e3, e4, e5, e6, e7⟩ := o
    obtain ⟨p', c', e, rfl, k3, k4, k5, k6, k7⟩ := o'
    cases e
    rw [e6] at k6
    cases k6; rfl
  | ll ess =>
    obtain ⟨p, rs, rfl, rfl, nd, e3, e4, e5⟩ := o
    obtain ⟨p', rs', e, rfl, nd', k3, k4, k5⟩ := o'
    cases e
    rw [e4] at k4
    have q : rs.map V.ref = rs'.map V.ref := by injection Option.some.inj k4
    rw [refs_inj q]
  | bl ess =>
    obtain ⟨p, rs, rfl, rfl, nd, e3, e4, e5⟩ := o
    obtain ⟨p', rs', e, rfl, nd', k3, k4, k5⟩ := o'
    cases e
    rw [e4] at k4
    have q : rs.map V.ref = rs'.map V.ref := by injection Option.some.inj k4
    rw [refs_inj q]
  | iv c kvs =>
    obtain ⟨p, dx, fs, rfl, rfl, _⟩ := o
    obtain ⟨p', dx', fs', e, rfl, _⟩ := o'
    cases e; rfl
  | st w ns =>
    obtain ⟨p, S, rfl, rfl, _⟩ := o
    obtain ⟨p', S', e, rfl, _⟩ := o'
    cases e; rfl
  | rg lo hi =>
    obtain ⟨p, rfl, rfl, _⟩ := o
    obtain ⟨p', e, rfl, _⟩ := o'
    cases e; rfl
theorem pin_ne {i i0 : Nat} {mo mo' : MO} (hi0 : i ≠ 0) (h1 : mo'.pin1 = false) (hm : mo.pinS i0) (e : (en.set i (SV.own mo'))[i0]? = some (.own mo)) : i ≠ i0 := by
  intro q
  subst q
  by_cases hi : i < en.length
  · rw [List.getElem?_set_self hi] at e
    cases e
    rcases hm with ⟨h, _⟩ | ⟨_, h⟩
    · exact hi0 h
    · rw [h1] at h; cases h
  · rw [List.getElem?_eq_none (by rw [List.length_set]; omega)] at e; cases e
/-- the heap grew, what was owned stays -/
theorem Gd.grow (g : Gd K F G H σ en) (f : Gf (F0 G H) G' H') : Gd K F G' H' σ en := by
  obtain ⟨om, s⟩ := g.sat
  have keep : ∀ {v : V} {mo : MO} {as : List Addr}, Own K G H v mo as → Own K G' H' v mo as := fun {v mo as} o =>
    o.keep f.g0 (fun a ha => f.nf a (o.live a ha).1 (o.live a ha).2 id) fun a _ x hx => f.pres a x hx id
  refine ⟨g.gf.comp f rfl rfl (fun _ z => z.elim), g.len, ⟨om, fun i sv e => ?_⟩, fun i0 mo hm e => ?_⟩
  · have q := s i sv e
    cases sv with
    | un => trivial
    | dat d => obtain ⟨v, h1, h2⟩ := q; exact ⟨v, h1, dp_mono f.g0 d v h2⟩
    | own mo => obtain ⟨v, as, h1, h2, h3⟩ := q; exact ⟨v, as, h1, keep h2, h3⟩
  · obtain ⟨h1, h2⟩ := g.pin i0 mo hm e
    exact ⟨h1, keep h2⟩
theorem gf0_new {p : Addr} {o : HO} (gh : Same G H) (h : H p = none) : Gf (F0 G H) G (upd H p o) :=
  ⟨Same.refl _, fun a x e => by rw [upd_ne (ne_of_none (gh a x e) h)]; exact gh a x e, fun _ _ h _ => h, fun a x e _ => by rw [upd_ne (ne_of_none (show H a = some x from e) h)]; exact e,
    fun a e => by
      by_cases q : a = p
      · subst q; rw [upd_same]; exact fun z => by cases z
      · rw [upd_ne q]; exact e⟩
theorem gf0_newG {p : Addr} {o : HO} (gh : Same G H) (h : H p = none) : Gf (F0 G H) (upd G p o) (upd H p o) := by
  have hg : G p = none := Same.free gh h
  have k := gf0_new (o := o) gh h
  refine ⟨same_upd hg, fun a x e => ?_, fun a e1 e2 _ => ?_, k.pres, k.live⟩
  · by_cases q : a = p
    · subst q; rw [upd_same] at e ⊢; exact e
    · rw [upd_ne q] at e ⊢; exact gh a x e
  · have q : a ≠ p := fun z => e1 (by rw [z]; exact h)
    rw [upd_ne q]; exact e2
theorem gf0_refl (gh : Same G H) : Gf (F0 G H) G H := Gf.refl G H _ _ _ gh
/-- data stored at a name -/
theorem Gd.setDat {i : Nat} {v : V} {d : D} (g : Gd K F G H σ en) (hd : Dp K G v d) : Gd K F G H (σ.set i (some v)) (en.set i (.dat d)) := by
  obtain ⟨om, s⟩ := g.sat
  refine ⟨g.gf, by rw [List.length_set, List.length_set, g.len], ⟨om, fun j sv e => ?_⟩, fun i0 mo hm e => ?_⟩
  · by_cases q : i = j
    · subst q
      by_cases hi : i < en.length
      · rw [List.getElem?_set_self hi] at e
        cases e
        exact ⟨v, by rw [List.getElem?_set_self (by rw [← g.len]; exact hi)], hd⟩
      · rw [List.getElem?_eq_none (by rw [List.length_set]; omega)] at e
        cases e
    · rw [List.getElem?_set_ne q] at e ⊢
      exact s j sv e
  · by_cases q : i = i0
    · subst q
      by_cases hi : i < en.length
      · rw [List.getElem?_set_self hi] at e; cases e
      · rw [List.getElem?_eq_none (by rw [List.length_set]; omega)] at e; cases e
    · rw [List.getElem?_set_ne q] at e ⊢
      exact g.pin i0 mo hm e
/-- a name is forgotten -/
theorem Gd.setUn {i : Nat} {x : Option V} (g : Gd K F G H σ en) : Gd K F G H (σ.set i x) (en.set i .un) := by
  obtain ⟨om, s⟩ := g.sat
  refine ⟨g.gf, by rw [List.length_set, List.length_set, g.len], ⟨om, fun j sv e => ?_⟩, fun i0 mo hm e => ?_⟩
  · by_cases q : i = j
    · subst q
      by_cases hi : i < en.length
      · rw [List.getElem?_set_self hi] at e
        cases e
        trivial
      · rw [List.getElem?_eq_none (by rw [List.length_set]; omega)] at e
        cases e
    · rw [List.getElem?_set_ne q] at e ⊢
      exact s j sv e
  · by_cases q : i = i0
    · subst q
      by_cases hi : i < en.length
      · rw [List.getElem?_set_self hi] at e; cases e
      · rw [List.getElem?_eq_none (by rw [List.length_set]; omega)] at e; cases e
    · rw [List.getElem?_set_ne q] at e ⊢
      exact g.pin i0 mo hm e
/-- p is no slot's -/
def Free (K : PySem.W.Frag) (G H : Hp) (σ : L2.St) (en : En) (p : Addr) : Prop := ∀ (i : Nat) (mo : MO) (v : V) (as : List Addr), en[i]? = some (SV.own mo) → σ[i]? = some (some v) → Own K G H v mo as → p ∉ as
/-- a list that is nobody's becomes data -/
theorem Gd.adopt {p : Addr} {o : HO} (g : Gd K F G H σ en) (hg : G p = none) (hh : H p = some o) (h0 : F.Z p ∨ F.H0 p = none) (fr : Free K G H σ en p) : Gd K F (upd G p o) H σ en := by
  obtain ⟨om, s⟩ := g.sat
  have keep : ∀ {i : Nat} {v : V} {mo : MO} {as : List Addr}, en[i]? = some (.own mo) → σ[i]? = some (some v) → Own K G H v mo as → Own K (upd G p o) H v mo as := fun {i v mo as} e1 e2 ow =>
    ow.keep (same_upd hg) (fun a ha => by
      have q : a ≠ p := fun z => fr _ _ _ _ e1 e2 ow (by rw [← z]; exact ha)
      rw [upd_ne q]; exact (ow.live a ha).2) fun _ _ _ h => h
  refine ⟨⟨g.gf.g0.trans (same_upd hg), fun a x e => ?_, fun a h1 h2 h3 => ?_, g.gf.pres, g.gf.live⟩, g.len, ⟨om, fun i sv e => ?_⟩, fun i0 mo hm e => ?_⟩
  · by_cases q : a = p
    · subst q; rw [upd_same] at e; rw [hh]; exact e
    · rw [upd_ne q] at e; exact g.gf.gh a x e
  · have q : a ≠ p := fun z => by
      subst z
      rcases h0 with z | z
      · exact h3 z
      · exact h1 z
    rw [upd_ne q]; exact g.gf.nf a h1 h2 h3
  · have q := s i sv e
    cases sv with
    | un => trivial
    | dat d => obtain ⟨v, h1, h2⟩ := q; exact ⟨v, h1, dp_mono (same_upd hg) d v h2⟩
    | own mo => obtain ⟨v, as, h1, h2, h3⟩ := q; exact ⟨v, as, h1, keep e h1 h2, h3⟩
  · obtain ⟨h1, h2⟩ := g.pin i0 mo hm e
    exact ⟨h1, keep e h1 h2⟩
/-- .. or a name's own -/
theorem Gd.setOwn {i : Nat} {p : Addr} {vs : List V} {ds : List D} (g : Gd K F G H σ en) (hg : G p = none) (hh : H p = some (.lst vs)) (hd : DpAll K G vs ds) (h0 : F.Z p ∨ F.H0 p = none) (fr : Free K G H σ en p) :
    Gd K F G H (σ.set i (some (.ref p))) (en.set i (.own (.lst ds))) := by
  obtain ⟨om, s⟩ := g.sat
  refine ⟨g.gf, by rw [List.length_set, List.length_set, g.len], ⟨fun a => if a = p then i else om a, fun j sv e => ?_⟩, fun i0 mo hm e => ?_⟩
  · by_cases q : i = j
    · subst q
      by_cases hi : i < en.length
      · rw [List.getElem?_set_self hi] at e
        cases e
        exact ⟨.ref p, [p], by rw [List.getElem?_set_self (by rw [← g.len]; exact hi)], ⟨p, vs, rfl, rfl, hg, hh, hd⟩, fun a ha => by
          have : a = p := by simpa using ha
          subst this
          exact ⟨if_pos rfl, h0⟩⟩
      · rw [List.getElem?_eq_none (by rw [List.length_set]; omega)] at e
        cases e
    · rw [List.getElem?_set_ne q] at e ⊢
      have z := s j sv e
      cases sv with
      | un => trivial
      | dat d => exact z
      | own mo =>
        obtain ⟨v, as, h1, h2, h3⟩ := z
        refine ⟨v, as, h1, h2, fun a ha => ⟨?_, (h3 a ha).2⟩⟩
        have : a ≠ p := fun z => fr _ _ _ _ e h1 h2 (by rw [← z]; exact ha)
        show (if a = p then i else om a) = j
        rw [if_neg this]
        exact (h3 a ha).1
  · by_cases q : i = i0
    · subst q
      by_cases hi : i < en.length
      · rw [List.getElem?_set_self hi] at e; cases e; exact nomatch MO.pinS_p hm
      · rw [List.getElem?_eq_none (by rw [List.length_set]; omega)] at e; cases e
    · rw [List.getElem?_set_ne q] at e ⊢
      exact g.pin i0 mo hm e
/-- another list at a name's own -/
theorem Gd.mut {i : Nat} {p : Addr} {ws : List V} {ds es : List D} (g : Gd K F G H σ en) (he : en[i]? = some (.own (.lst ds))) (hs : σ[i]? = some (some (.ref p))) (hd : DpAll K G ws es) :
    Gd K F G (upd H p (.lst ws)) σ (en.set i (.own (.lst es))) := by
  obtain ⟨om, s⟩ := g.sat
  obtain ⟨v, as, h1, h2, h3⟩ := s i _ he
  rw [hs] at h1; cases h1
  obtain ⟨p', vs', q1, q2, q3, q4, q5⟩ := h2
  cases q1
  subst q2
  obtain ⟨o1, o2⟩ := h3 p (by simp)
  have hi : i < en.length := (List.getElem?_eq_some_iff.mp he).1
  have keep : ∀ {j : Nat} {v : V} {mo : MO} {as : List Addr}, j ≠ i → (∀ a ∈ as, om a = j) → Own K G H v mo as → Own K G (upd H p (.lst ws)) v mo as := fun {j v mo as} nj hj ow =>
    ow.keep (Same.refl _) (fun a ha => (ow.live a ha).2) fun a ha x hx => by
      have : a ≠ p := fun z => nj (by rw [← hj a ha, z, o1])
      rw [upd_ne this]; exact hx
  refine ⟨⟨g.gf.g0, fun a x e => ?_, g.gf.nf, fun a o h4 h5 => ?_, fun a h => ?_⟩, by rw [List.length_set, g.len], ⟨om, fun j sv e => ?_⟩, fun i0 mo hm e => ?_⟩
  · have : a ≠ p := fun z => by rw [z, q3] at e; cases e
    rw [upd_ne this]; exact g.gf.gh a x e
  · have : a ≠ p := fun z => by
      subst z
      rcases o2 with z | z
      · exact h5 z
      · rw [z] at h4; cases h4
    rw [upd_ne this]; exact g.gf.pres a o h4 h5
  · by_cases q : a = p
    · subst q; rw [upd_same]; exact fun z => by cases z
    · rw [upd_ne q]; exact g.gf.live a h
  · by_cases q : i = j
    · subst q
      rw [List.getElem?_set_self hi] at e
      cases e
      exact ⟨.ref p, [p], hs, ⟨p, ws, rfl, rfl, q3, upd_same, hd⟩, fun a ha => h3 a ha⟩
    · rw [List.getElem?_set_ne q] at e
      have z := s j sv e
      cases sv with
      | un => trivial
      | dat d => exact z
      | own mo =>
        obtain ⟨v, as, h1, h2, h3⟩ := z
        exact ⟨v, as, h1, keep (Ne.symm q) (fun a ha => (h3 a ha).1) h2, h3⟩
  · have q : i ≠ i0 := fun z => by
      subst z
      rw [List.getElem?_set_self hi] at e; cases e; exact nomatch MO.pinS_p hm
    rw [List.getElem?_set_ne q] at e
    obtain ⟨r1, r2⟩ := g.pin i0 mo hm e
    refine ⟨r1, ?_⟩
    have z := s i0 _ e
    obtain ⟨v, as, h1, h2, h3⟩ := z
    rw [r1] at h1; cases h1
    obtain rfl := h2.inj r2
    exact keep (Ne.symm q) (fun a ha => (h3 a ha).1) r2
/-- a slot of data, of an own list -/
theorem Gd.dat {i : Nat} {d : D} (g : Gd K F G H σ en) (e : en[i]? = some (.dat d)) : ∃ v, σ[i]? = some (some v) ∧ Dp K G v d := by
  obtain ⟨om, s⟩ := g.sat
  exact s i _ e
theorem Gd.own {i : Nat} {ds : List D} (g : Gd K F G H σ en) (e : en[i]? = some (.own (.lst ds))) : ∃ p vs, σ[i]? = some (some (.ref p)) ∧ G p = none ∧ H p = some (.lst vs) ∧ DpAll K G vs ds ∧ (F.Z p ∨ F.H0 p = none) := by
  obtain ⟨om, s⟩ := g.sat
  obtain ⟨v, as, h1, ⟨p, vs, rfl, rfl, h4, h5, h6⟩, h3⟩ := s i _ e
  exact ⟨p, vs, h1, h4, h5, h6, (h3 p (by simp)).2⟩
/-- an own list becomes data -/
theorem Gd.freeze {i : Nat} {ds : List D} (g : Gd K F G H σ en) (e : en[i]? = some (.own (.lst ds))) : ∃ p vs, σ[i]? = some (some (.ref p)) ∧ Gd K F (upd G p (.lst vs)) H σ (en.set i (.dat (.list ds))) ∧ Same G (upd G p (.lst vs)) ∧ Dp K (upd G p (.lst vs)) (.ref p) (.list ds) := by
  obtain ⟨p, vs, h1, h2, h3, h4, h5⟩ := g.own e
  have hi : i < en.length := (List.getElem?_eq_some_iff.mp e).1
  have sm : Same G (upd G p (.lst vs)) := same_upd h2
  have dp : Dp K (upd G p (.lst vs)) (.ref p) (.list ds) := .lst (.inl (.inl upd_same)) (dpa_mono sm _ _ h4)
  refine ⟨p, vs, h1, ?_, sm, dp⟩
  obtain ⟨om, s⟩ := g.sat
  obtain ⟨v, as, k1, k2, k3⟩ := s i _ e
  rw [h1] at k1; cases k1
  have as1 : as = [p] := by obtain ⟨p', vs', q1, q2, _⟩ := k2; cases q1; exact q2
  subst as1
  have omp := (k3 p (by simp)).1
  -- first the name is forgotten, then the list is nobody's
  have g1 : Gd K F G H σ (en.set i .un) := by
    have z := g.setUn (i := i) (x := some (.ref p))
    have : σ.set i (some (V.ref p)) = σ := by
      refine List.ext_getElem? fun j => ?_
      by_cases q : i = j
      · subst q
        rw [List.getElem?_set_self (by rw [← g.len]; exact hi), h1]
      · rw [List.getElem?_set_ne q]
    rw [this] at z
    exact z
  have fr : Free K G H σ (en.set i .un) p := by
    intro j mo v as e1 e2 ow hp
    have q : i ≠ j := fun z => by
      subst z
      rw [List.getElem?_set_self hi] at e1; cases e1
    rw [List.getElem?_set_ne q] at e1
    obtain ⟨v', as', l1, l2, l3⟩ := s j _ e1
    rw [e2] at l1; cases l1
    obtain rfl := ow.inj l2
    exact q (omp.symm.trans (l3 p hp).1)
  have g2 := g1.adopt h2 h3 h5 fr
  have g3 := g2.setDat (i := i) dp
  rw [List.set_set] at g3
  have : σ.set i (some (V.ref p)) = σ := by
    refine List.ext_getElem? fun j => ?_
    by_cases q : i = j
    · subst q
      rw [List.getElem?_set_self (by rw [← g.len]; exact hi), h1]
    · rw [List.getElem?_set_ne q]
  rw [this] at g3
  exact g3
/-- from here on, everything but what the slots own is to stay -/
def Fm.re (F : Fm) (K : PySem.W.Frag) (G H : Hp) (σ : L2.St) (en : En) : Fm :=
  ⟨G, H, fun a => ∃ (i : Nat) (mo : MO) (v : V) (as : List Addr), en[i]? = some (SV.own mo) ∧ σ[i]? = some (some v) ∧ Own K G H v mo as ∧ a ∈ as, F.p0, F.as0⟩
theorem Gd.rebase (g : Gd K F G H σ en) : Gd K (F.re K G H σ en) G H σ en := by
  obtain ⟨om, s⟩ := g.sat
  refine ⟨Gf.refl _ _ _ _ _ g.gf.gh, g.len, ⟨om, fun i sv e => ?_⟩, g.pin⟩
  have q := s i sv e
  cases sv with
  | un => trivial
  | dat d => exact q
  | own mo =>
    obtain ⟨v, as, h1, h2, h3⟩ := q
    exact ⟨v, as, h1, h2, fun a ha => ⟨(h3 a ha).1, .inl ⟨i, mo, v, as, e, h1, h2, ha⟩⟩⟩
theorem Gd.zs (g : Gd K F G H σ en) : ∀ a, (F.re K G H σ en).Z a → F.Z a ∨ F.H0 a = none := by
  rintro a ⟨i, mo, v, as, e, h1, h2, ha⟩
  obtain ⟨om, s⟩ := g.sat
  obtain ⟨v', as', k1, k2, k3⟩ := s i _ e
  rw [h1] at k1; cases k1
  obtain rfl := h2.inj k2
  exact (k3 a ha).2
theorem Gd.back {σ' : L2.St} {en' : En} (g : Gd K F G H σ en) (g' : Gd K (F.re K G H σ en) G' H' σ' en') : Gd K F G' H' σ' en' := by
  obtain ⟨om, s⟩ := g'.sat
  refine ⟨g.gf.comp g'.gf rfl rfl g.zs, g'.len, ⟨om, fun i sv e => ?_⟩, g'.pin⟩
  have q := s i sv e
  cases sv with
  | un => trivial
  | dat d => exact q
  | own mo =>
    obtain ⟨v, as, h1, h2, h3⟩ := q
    refine ⟨v, as, h1, h2, fun a ha => ⟨(h3 a ha).1, ?_⟩⟩
    rcases (h3 a ha).2 with z | z
    · exact g.zs a z
    · right
      have z' : H a = none := z
      cases q : F.H0 a with
      | none => rfl
      | some o => exact absurd z' (g.gf.live a (by rw [q]; exact fun z => by cases z))
theorem ErrAt.back {c : Str} {fs : List (Str × D)} {cls : Value} {dx : Option Addr} (g : Gf F G H) (e1 : F'.G0 = G) (e2 : F'.H0 = H) (z : ∀ a, F'.Z a → F.Z a ∨ F.H0 a = none) (e : ErrAt K mg F' c fs cls dx H') : ErrAt K mg F c fs cls dx H' := by
  obtain ⟨C, d, xs, G2, h1, h2, h3, h4, h5, h6, h7, h8⟩ := e
  refine ⟨C, d, xs, G2, h1, h2, h3, g.comp h4 e1 e2 z, ?_, h6, h7, h8⟩
  cases q : F.H0 d with
  | none => rfl
  | some o =>
    have := g.live d (by rw [q]; exact fun z => by cases z)
    rw [← e2] at this
    exact absurd h5 this
end
end Mir
end
section
set_option Elab.async false
set_option linter.all false
set_option maxRecDepth 100000
set_option maxHeartbeats 4000000
namespace Mir
open PySem PySem.Spec PyProof.Rows L2
def Rs.bind {A B : Type} (x : Rs A) (f : A → Rs B) : Rs B := match x with
  | .ok a => f a
  | .err c fs => .err c fs
  | .stk => .stk
/-- no error may come of it -/
def Rs.calm {A : Type} (x : Rs A) : Rs A := match x with
  | .ok a => .ok a
  | _ => .stk
@[simp] theorem bind_ok {A B : Type} (a : A) (f : A → Rs B) : (Rs.ok a).bind f = f a := rfl
@[simp] theorem bind_err {A B : Type} (c : Str) (fs : List (Str × D)) (f : A → Rs B) : (Rs.err c fs).bind f = .err c fs := rfl
@[simp] theorem bind_stk {A B : Type} (f : A → Rs B) : (Rs.stk).bind f = .stk := rfl
@[simp] theorem calm_ok {A : Type} (a : A) : (Rs.ok a).calm = .ok a := rfl
@[simp] theorem calm_err {A : Type} (c : Str) (fs : List (Str × D)) : (Rs.err c fs : Rs A).calm = .stk := rfl
@[simp] theorem calm_stk {A : Type} : (Rs.stk : Rs A).calm = .stk := rfl
/-- more than any list here is long -/
def big : Nat := 100000
theorem big_line {n : Nat} (h : n ≤ big) : n ≤ sizeLine := Nat.le_trans h (by decide)
theorem big_lt {n : Nat} (h : n < big) : n < sizeLine := Nat.lt_of_lt_of_le h (by decide)
section
variable (K : PySem.W.Frag) (mg : Str → Option Value) (E : XK)
def PoE (F : Fm) (σ : L2.St) (G : Hp) (Q : VK) : Rs (D × En) → Prop
  | .ok (d, en') => ∀ v G' H', Gd K F G' H' σ en' → Same G G' → Dp K G' v d → Q v H'
  | .err c fs => ∀ cls dx H', ErrAt K mg F c fs cls dx H' → E cls dx H'
  | .stk => False
/-- a new list that is nobody's yet -/
def PoL (F : Fm) (σ : L2.St) (G : Hp) (Q : VK) : Rs (List D × En) → Prop
  | .ok (ds, en') => ∀ p vs G' H', Gd K F G' H' σ en' → Same G G' → G' p = none → H' p = some (.lst vs) → DpAll K G' vs ds → F.H0 p = none → Free K G' H' σ en' p → Q (.ref p) H'
  | .err c fs => ∀ cls dx H', ErrAt K mg F c fs cls dx H' → E cls dx H'
  | .stk => False
def PoT (F : Fm) (σ : L2.St) (G : Hp) (Q : Bool → Hp → Prop) : Rs (Bool × En) → Prop
  | .ok (b, en') => ∀ G' H', Gd K F G' H' σ en' → Same G G' → Q b H'
  | .err c fs => ∀ cls dx H', ErrAt K mg F c fs cls dx H' → E cls dx H'
  | .stk => False
def PoA (F : Fm) (σ : L2.St) (G : Hp) (Q : List V → Hp → Prop) : Rs (List D × En) → Prop
  | .ok (ds, en') => ∀ vs G' H', Gd K F G' H' σ en' → Same G G' → DpAll K G' vs ds → Q vs H'
  | .err c fs => ∀ cls dx H', ErrAt K mg F c fs cls dx H' → E cls dx H'
  | .stk => False
def PoS (F : Fm) (G : Hp) (D : Ends) : Rs (Fl × En) → Prop
  | .ok (.nx, en') => ∀ σ' G' H', Gd K F G' H' σ' en' → Same G G' → D.nx σ' H'
  | .ok (.bk, en') => ∀ σ' G' H', Gd K F G' H' σ' en' → Same G G' → D.bk σ' H'
  | .ok (.ct, en') => ∀ σ' G' H', Gd K F G' H' σ' en' → Same G G' → D.ct σ' H'
  | .ok (.rt d, en') => ∀ v σ' G' H', Gd K F G' H' σ' en' → Same G G' → Dp K G' v d → D.rt v H'
  | .err c fs => ∀ cls dx H', ErrAt K mg F c fs cls dx H' → E cls dx H'
  | .stk => False
end
section
variable (K : PySem.W.Frag) (mg : Str → Option Value) (E : L2.St → XK)
structure SE (te : TE) (m : Em) : Prop where
  run : ∀ F σ en G H Q, Gd K F G H σ en → PoE K mg (E σ) F σ G Q (m en) → te σ H Q
structure SL (te : TE) (m : Am) : Prop where
  run : ∀ F σ en G H Q, Gd K F G H σ en → PoL K mg (E σ) F σ G Q (m en) → te σ H Q
structure ST (tt : TT) (m : Tm) : Prop where
  run : ∀ F σ en G H Q, Gd K F G H σ en → PoT K mg (E σ) F σ G Q (m en) → tt σ H Q
structure SA (ta : TA) (m : Am) : Prop where
  run : ∀ F σ en G H Q, Gd K F G H σ en → PoA K mg (E σ) F σ G Q (m en) → ta σ H Q
/-- a target that stores at the slots js alone -/
structure SG (js : List Nat) (g : TG) (m : Gm) : Prop where
  run : ∀ F σ en G H v d Q, Gd K F G H σ en → Dp K G v d → (match m d en with
    | .ok en' => ∀ σ', σ'.length = σ.length → (∀ k, k ∉ js → σ'[k]? = σ[k]?) → Gd K F G H σ' en' → Q σ' H
    | _ => False) → g v σ H Q
end
/-- statements; an error may come at any slots -/
structure SS (K : PySem.W.Frag) (mg : Str → Option Value) (E : XK) (ts : TS) (m : Sm) : Prop where
  run : ∀ F σ en G H D, Gd K F G H σ en → PoS K mg E F G D (m en) → ts D σ H
/-- what is walked yields the data ds, whatever else there is -/
def ItOk (K : PySem.W.Frag) (G0 : Hp) (J : It) (ds : List D) : Prop := ∀ i G H, Same G0 G → Same G H →
  (∀ d, ds[i]? = some d → J.go i H ∧ ∀ x H', J.yld i H x H' → ∃ G2, Gf (F0 G H) G2 H' ∧ Dp K G2 x d) ∧ (ds[i]? = none → J.stop i H)
section
variable (K : PySem.W.Frag) (mg : Str → Option Value) (E : XK)
def PoI (F : Fm) (σ : L2.St) (G : Hp) (R : It → Hp → Prop) : Rs (List D × En) → Prop
  | .ok (ds, en') => ∀ J G' H', Gd K F G' H' σ en' → Same G G' → ItOk K G' J ds → R J H'
  | .err c fs => ∀ cls dx H', ErrAt K mg F c fs cls dx H' → E cls dx H'
  | .stk => False
end
section
variable (K : PySem.W.Frag) (mg : Str → Option Value) (E : L2.St → XK)
structure SI (wi : TI) (m : Im) : Prop where
  run : ∀ F σ en G H R, Gd K F G H σ en → PoI K mg (E σ) F σ G R (m en) → wi σ H R
/-- operations on values -/
structure O1 (r : V → Hp → VK → Prop) (f : D → Rs D) : Prop where
  run : ∀ G H x d z, Same G H → Dp K G x d → f d = .ok z → ∀ Q : VK, (∀ v G' H', Gf (F0 G H) G' H' → Dp K G' v z → Q v H') → r x H Q
structure O2 (r : R2) (f : D → D → Rs D) : Prop where
  run : ∀ G H x y d e z, Same G H → Dp K G x d → Dp K G y e → f d e = .ok z → ∀ Q : VK, (∀ v G' H', Gf (F0 G H) G' H' → Dp K G' v z → Q v H') → r x y H Q
structure ON (r : List V → Hp → VK → Prop) (f : List D → Rs D) : Prop where
  run : ∀ G H xs ds z, Same G H → DpAll K G xs ds → f ds = .ok z → ∀ Q : VK, (∀ v G' H', Gf (F0 G H) G' H' → Dp K G' v z → Q v H') → r xs H Q
/-- .. that make a new list -/
structure OL (r : List V → Hp → VK → Prop) (f : List D → Rs (List D)) : Prop where
  run : ∀ G H xs ds zs, Same G H → DpAll K G xs ds → f ds = .ok zs → ∀ Q : VK, (∀ p vs G' H', Gf (F0 G H) G' H' → H p = none → G' p = none → H' p = some (.lst vs) → DpAll K G' vs zs → Q (.ref p) H') → r xs H Q
structure O2L (r : R2) (f : D → D → Rs (List D)) : Prop where
  run : ∀ G H x y d e zs, Same G H → Dp K G x d → Dp K G y e → f d e = .ok zs → ∀ Q : VK, (∀ p vs G' H', Gf (F0 G H) G' H' → H p = none → G' p = none → H' p = some (.lst vs) → DpAll K G' vs zs → Q (.ref p) H') → r x y H Q
end
section
variable {K : PySem.W.Frag} {mg : Str → Option Value} {E : L2.St → XK} {F : Fm} {σ : L2.St} {G G' H H' : Hp} {en : En}
theorem PoE.bind {A : Type} {Q : VK} {x : Rs A} {f : A → Rs (D × En)} (h : PoE K mg (E σ) F σ G Q (x.bind f)) : (∃ a, x = .ok a ∧ PoE K mg (E σ) F σ G Q (f a)) ∨ ∃ c fs, x = .err c fs ∧ ∀ cls dx H', ErrAt K mg F c fs cls dx H' → E σ cls dx H' := by
  cases x with
  | ok a => exact .inl ⟨a, rfl, h⟩
  | err c fs => exact .inr ⟨c, fs, rfl, h⟩
  | stk => exact h.elim
theorem se_bind {te : TE} {m : Em} {Q : VK} {B : Type} {P : Rs B → Prop} {f : D × En → Rs B} (h : SE K mg E te m) (g : Gd K F G H σ en) (he : ∀ c fs, P (.err c fs) → ∀ cls dx H', ErrAt K mg F c fs cls dx H' → E σ cls dx H') (hs : ¬ P .stk)
    (p : P ((m en).bind f)) (k : ∀ d en' v G' H', P (f (d, en')) → Gd K F G' H' σ en' → Same G G' → Dp K G' v d → Q v H') : te σ H Q := by
  refine h.run F σ en G H Q g ?_
  cases q : m en with
  | ok a =>
    obtain ⟨d, en'⟩ := a
    rw [q] at p
    exact fun v G' H' g' s' hd => k d en' v G' H' p g' s' hd
  | err c fs =>
    rw [q] at p
    exact he c fs p
  | stk =>
    rw [q] at p
    exact hs p
theorem sl_bind {te : TE} {m : Am} {Q : VK} {B : Type} {P : Rs B → Prop} {f : List D × En → Rs B} (h : SL K mg E te m) (g : Gd K F G H σ en) (he : ∀ c fs, P (.err c fs) → ∀ cls dx H', ErrAt K mg F c fs cls dx H' → E σ cls dx H') (hs : ¬ P .stk)
    (p : P ((m en).bind f)) (k : ∀ ds en' p vs G' H', P (f (ds, en')) → Gd K F G' H' σ en' → Same G G' → G' p = none → H' p = some (.lst vs) → DpAll K G' vs ds → F.H0 p = none → Free K G' H' σ en' p → Q (.ref p) H') : te σ H Q := by
  refine h.run F σ en G H Q g ?_
  cases q : m en with
  | ok a =>
    obtain ⟨d, en'⟩ := a
    rw [q] at p
    exact fun pp vs G' H' g' s' h1 h2 h3 h4 h5 => k d en' pp vs G' H' p g' s' h1 h2 h3 h4 h5
  | err c fs =>
    rw [q] at p
    exact he c fs p
  | stk =>
    rw [q] at p
    exact hs p
theorem st_bind {tt : TT} {m : Tm} {Q : Bool → Hp → Prop} {B : Type} {P : Rs B → Prop} {f : Bool × En → Rs B} (h : ST K mg E tt m) (g : Gd K F G H σ en) (he : ∀ c fs, P (.err c fs) → ∀ cls dx H', ErrAt K mg F c fs cls dx H' → E σ cls dx H') (hs : ¬ P .stk)
    (p : P ((m en).bind f)) (k : ∀ b en' G' H', P (f (b, en')) → Gd K F G' H' σ en' → Same G G' → Q b H') : tt σ H Q := by
  refine h.run F σ en G H Q g ?_
  cases q : m en with
  | ok a =>
    obtain ⟨d, en'⟩ := a
    rw [q] at p
    exact fun G' H' g' s' => k d en' G' H' p g' s'
  | err c fs =>
    rw [q] at p
    exact he c fs p
  | stk =>
    rw [q] at p
    exact hs p
theorem sa_bind {ta : TA} {m : Am} {Q : List V → Hp → Prop} {B : Type} {P : Rs B → Prop} {f : List D × En → Rs B} (h : SA K mg E ta m) (g : Gd K F G H σ en) (he : ∀ c fs, P (.err c fs) → ∀ cls dx H', ErrAt K mg F c fs cls dx H' → E σ cls dx H') (hs : ¬ P .stk)
    (p : P ((m en).bind f)) (k : ∀ ds en' vs G' H', P (f (ds, en')) → Gd K F G' H' σ en' → Same G G' → DpAll K G' vs ds → Q vs H') : ta σ H Q := by
  refine h.run F σ en G H Q g ?_
  cases q : m en with
  | ok a =>
    obtain ⟨d, en'⟩ := a
    rw [q] at p
    exact fun vs G' H' g' s' hd => k d en' vs G' H' p g' s' hd
  | err c fs =>
    rw [q] at p
    exact he c fs p
  | stk =>
    rw [q] at p
    exact hs p
theorem si_bind {wi : TI} {m : Im} {R : It → Hp → Prop} {B : Type} {P : Rs B → Prop} {f : List D × En → Rs B} (h : SI K mg E wi m) (g : Gd K F G H σ en) (he : ∀ c fs, P (.err c fs) → ∀ cls dx H', ErrAt K mg F c fs cls dx H' → E σ cls dx H') (hs : ¬ P .stk)
    (p : P ((m en).bind f)) (k : ∀ ds en' J G' H', P (f (ds, en')) → Gd K F G' H' σ en' → Same G G' → ItOk K G' J ds → R J H') : wi σ H R := by
  refine h.run F σ en G H R g ?_
  cases q : m en with
  | ok a =>
    obtain ⟨d, en'⟩ := a
    rw [q] at p
    exact fun J G' H' g' s' hd => k d en' J G' H' p g' s' hd
  | err c fs =>
    rw [q] at p
    exact he c fs p
  | stk =>
    rw [q] at p
    exact hs p
theorem poE_err {Q : VK} (c fs) (h : PoE K mg (E σ) F σ G Q (.err c fs)) : ∀ cls dx H', ErrAt K mg F c fs cls dx H' → E σ cls dx H' := h
theorem poL_err {Q : VK} (c fs) (h : PoL K mg (E σ) F σ G Q (.err c fs)) : ∀ cls dx H', ErrAt K mg F c fs cls dx H' → E σ cls dx H' := h
theorem poT_err {Q : Bool → Hp → Prop} (c fs) (h : PoT K mg (E σ) F σ G Q (.err c fs)) : ∀ cls dx H', ErrAt K mg F c fs cls dx H' → E σ cls dx H' := h
theorem poA_err {Q : List V → Hp → Prop} (c fs) (h : PoA K mg (E σ) F σ G Q (.err c fs)) : ∀ cls dx H', ErrAt K mg F c fs cls dx H' → E σ cls dx H' := h
theorem poI_err {Q : It → Hp → Prop} (c fs) (h : PoI K mg (E σ) F σ G Q (.err c fs)) : ∀ cls dx H', ErrAt K mg F c fs cls dx H' → E σ cls dx H' := h
theorem poS_err {E : XK} {D : Ends} (c fs) (h : PoS K mg E F G D (.err c fs)) : ∀ cls dx H', ErrAt K mg F c fs cls dx H' → E cls dx H' := h
theorem PoS.up {E : XK} {D : Ends} {x : Rs (Fl × En)} (s : Same G G') (h : PoS K mg E F G D x) : PoS K mg E F G' D x := by
  cases x with
  | ok a =>
    obtain ⟨f, en'⟩ := a
    cases f with
    | nx => exact fun σ2 G2 H2 g2 s2 => h σ2 G2 H2 g2 (s.trans s2)
    | bk => exact fun σ2 G2 H2 g2 s2 => h σ2 G2 H2 g2 (s.trans s2)
    | ct => exact fun σ2 G2 H2 g2 s2 => h σ2 G2 H2 g2 (s.trans s2)
    | rt d => exact fun v σ2 G2 H2 g2 s2 hd => h v σ2 G2 H2 g2 (s.trans s2) hd
  | err c fs => exact h
  | stk => exact h
def eVar (i : Nat) : Em := fun en => match en[i]? with
  | some (.dat d) => .ok (d, en)
  | some (.own (.lst ds)) => .ok (.list ds, en.set i (.dat (.list ds)))
  | _ => .stk
theorem se_var {i : Nat} : SE K mg E (tVar i) (eVar i) := by
  refine ⟨fun F σ en G H Q g h => ?_⟩
  unfold eVar at h
  split at h
  · rename_i d e
    obtain ⟨v, h1, h2⟩ := g.dat e
    exact ⟨v, h1, h v G H g (Same.refl _) h2⟩
  · rename_i ds e
    obtain ⟨p, vs, h1, h2, h3, h4⟩ := g.freeze e
    exact ⟨.ref p, h1, h (.ref p) _ H h2 h3 h4⟩
  · exact h.elim
def eC (d : D) : Em := fun en => .ok (d, en)
theorem se_c {v : V} {d : D} (hd : ∀ G, Dp K G v d) : SE K mg E (tC v) (eC d) := ⟨fun F σ en G H Q g h => h v G H g (Same.refl _) (hd G)⟩
theorem se_int {i : Int} : SE K mg E (tC (.int i)) (eC (.int i)) := se_c fun _ => .int i
theorem se_bl {b : Bool} : SE K mg E (tC (.bl b)) (eC (.bool b)) := se_c fun _ => .bl b
theorem se_non : SE K mg E (tC .non) (eC .none) := se_c fun _ => .non
theorem se_str {x : Str} : SE K mg E (tC (.str x)) (eC (.str x)) := se_c fun _ => .str x
def aNil : Am := fun en => .ok ([], en)
def aCons (m : Em) (r : Am) : Am := fun en => (m en).bind fun p => (r p.2).bind fun q => .ok (p.1 :: q.1, q.2)
theorem sa_nil : SA K mg E tNil aNil := ⟨fun F σ en G H Q g h => h [] G H g (Same.refl _) .nil⟩
theorem sa_cons {te : TE} {ta : TA} {m : Em} {r : Am} (h1 : SE K mg E te m) (h2 : SA K mg E ta r) : SA K mg E (tCons te ta) (aCons m r) := by
  refine ⟨fun F σ en G H Q g h => ?_⟩
  refine se_bind h1 g poA_err id h fun d en1 v G1 H1 p1 g1 s1 d1 => ?_
  refine sa_bind h2 g1 poA_err id p1 fun ds en2 vs G2 H2 p2 g2 s2 d2 => ?_
  exact p2 (v :: vs) G2 H2 g2 (s1.trans s2) (.cons (dp_mono s2 _ _ d1) d2)
def eTup (a : Am) : Em := fun en => (a en).bind fun p => if p.1.length ≤ big then .ok (.tuple p.1, p.2) else .stk
theorem se_tup {ta : TA} {a : Am} (h1 : SA K mg E ta a) : SE K mg E (tTup ta) (eTup a) := by
  refine ⟨fun F σ en G H Q g h => ?_⟩
  refine sa_bind h1 g poE_err id h fun ds en1 vs G1 H1 p1 g1 s1 d1 => ?_
  split at p1
  · rename_i hz
    refine ⟨by rw [dpa_len d1]; exact big_line hz, fun p hp => ?_⟩
    have f := gf0_newG (o := .tup vs) g1.gf.gh hp
    exact p1 (.ref p) _ _ (g1.grow f) (s1.trans f.g0) (.tup (.inl (.inl upd_same)) (dpa_mono f.g0 _ _ d1))
  · exact p1.elim
/-- a new list, by what is asked of a new list -/
theorem free_new {p : Addr} (g : Gd K F G H σ en) (hp : H p = none) (f : Gf (F0 G H) G' H') : Free K G' H' σ en p := by
  intro i mo v as e1 e2 ow ha
  obtain ⟨om, s⟩ := g.sat
  obtain ⟨v', as', k1, k2, k3⟩ := s i _ e1
  rw [e2] at k1; cases k1
  have k2' : Own K G' H' v mo as' := k2.keep f.g0 (fun a ha => f.nf a (k2.live a ha).1 (k2.live a ha).2 id) fun a _ x hx => f.pres a x hx id
  obtain rfl := ow.inj k2'
  exact (k2.live p ha).1 hp
theorem h0_new {p : Addr} (g : Gd K F G H σ en) (hp : H p = none) : F.H0 p = none := by
  cases q : F.H0 p with
  | none => rfl
  | some o => exact absurd hp (g.gf.live p (by rw [q]; exact fun z => by cases z))
def lLst (a : Am) : Am := fun en => (a en).bind fun p => if p.1.length ≤ big then .ok p else .stk
theorem sl_lst {ta : TA} {a : Am} (h1 : SA K mg E ta a) : SL K mg E (tLst ta) (lLst a) := by
  refine ⟨fun F σ en G H Q g h => ?_⟩
  refine sa_bind h1 g poL_err id h fun ds en1 vs G1 H1 p1 g1 s1 d1 => ?_
  split at p1
  · rename_i hz
    refine ⟨by rw [dpa_len d1]; exact big_line hz, fun p hp => ?_⟩
    have f := gf0_new (o := .lst vs) g1.gf.gh hp
    exact p1 p vs G1 _ (g1.grow f) s1 (Same.free g1.gf.gh hp) upd_same d1 (h0_new g1 hp) (free_new g1 hp f)
  · exact p1.elim
/-- a new list as data -/
def eL (m : Am) : Em := fun en => (m en).bind fun p => .ok (.list p.1, p.2)
theorem se_l {te : TE} {m : Am} (h1 : SL K mg E te m) : SE K mg E te (eL m) := by
  refine ⟨fun F σ en G H Q g h => ?_⟩
  refine sl_bind h1 g poE_err id h fun ds en1 p vs G1 H1 p1 g1 s1 hg hh hd h0 fr => ?_
  have sm : Same G1 (upd G1 p (.lst vs)) := same_upd hg
  exact p1 (.ref p) _ H1 (g1.adopt hg hh (.inr h0) fr) (s1.trans sm) (.lst (.inl (.inl upd_same)) (dpa_mono sm _ _ hd))
def e1 (f : D → Rs D) (a : Em) : Em := fun en => (a en).bind fun p => (f p.1).calm.bind fun z => .ok (z, p.2)
def e2 (f : D → D → Rs D) (a b : Em) : Em := fun en => (a en).bind fun p => (b p.2).bind fun q => (f p.1 q.1).calm.bind fun z => .ok (z, q.2)
def eN (f : List D → Rs D) (a : Am) : Em := fun en => (a en).bind fun p => (f p.1).calm.bind fun z => .ok (z, p.2)
def lN (f : List D → Rs (List D)) (a : Am) : Am := fun en => (a en).bind fun p => (f p.1).calm.bind fun z => .ok (z, p.2)
def l2 (f : D → D → Rs (List D)) (a b : Em) : Am := fun en => (a en).bind fun p => (b p.2).bind fun q => (f p.1 q.1).calm.bind fun z => .ok (z, q.2)
theorem calm_bind {A B : Type} {x : Rs A} {f : A → Rs B} {P : Rs B → Prop} (hs : ¬ P .stk) (h : P (x.calm.bind f)) : ∃ a, x = .ok a ∧ P (f a) := by
  cases x with
  | ok a => exact ⟨a, rfl, h⟩
  | err c fs => exact (hs h).elim
  | stk => exact (hs h).elim
theorem se_1 {r : V → Hp → VK → Prop} {f : D → Rs D} {ta : TE} {a : Em} (ho : O1 K r f) (h1 : SE K mg E ta a) : SE K mg E (tUn r ta) (e1 f a) := by
  refine ⟨fun F σ en G H Q g h => ?_⟩
  show ta σ H _
  refine se_bind h1 g poE_err id h fun d en1 v G1 H1 p1 g1 s1 d1 => ?_
  obtain ⟨z, ez, pz⟩ := calm_bind (P := PoE K mg (E σ) F σ G Q) id p1
  exact ho.run G1 H1 v d z g1.gf.gh d1 ez Q fun u G2 H2 f2 du => pz u G2 H2 (g1.grow f2) (s1.trans f2.g0) du
theorem se_2 {r : R2} {f : D → D → Rs D} {ta tb : TE} {a b : Em} (ho : O2 K r f) (h1 : SE K mg E ta a) (h2 : SE K mg E tb b) : SE K mg E (tOp r ta tb) (e2 f a b) := by
  refine ⟨fun F σ en G H Q g h => ?_⟩
  show ta σ H _
  refine se_bind h1 g poE_err id h fun d en1 v G1 H1 p1 g1 s1 d1 => ?_
  refine se_bind h2 g1 poE_err id p1 fun e en2 u G2 H2 p2 g2 s2 d2 => ?_
  obtain ⟨z, ez, pz⟩ := calm_bind (P := PoE K mg (E σ) F σ G Q) id p2
  exact ho.run G2 H2 v u d e z g2.gf.gh (dp_mono s2 _ _ d1) d2 ez Q fun w G3 H3 f3 dw => pz w G3 H3 (g2.grow f3) ((s1.trans s2).trans f3.g0) dw
theorem se_n {r : List V → Hp → VK → Prop} {f : List D → Rs D} {ta : TA} {a : Am} (ho : ON K r f) (h1 : SA K mg E ta a) : SE K mg E (tCB r ta) (eN f a) := by
  refine ⟨fun F σ en G H Q g h => ?_⟩
  refine sa_bind h1 g poE_err id h fun ds en1 vs G1 H1 p1 g1 s1 d1 => ?_
  obtain ⟨z, ez, pz⟩ := calm_bind (P := PoE K mg (E σ) F σ G Q) id p1
  exact ho.run G1 H1 vs ds z g1.gf.gh d1 ez Q fun u G2 H2 f2 du => pz u G2 H2 (g1.grow f2) (s1.trans f2.g0) du
theorem sl_n {r : List V → Hp → VK → Prop} {f : List D → Rs (List D)} {ta : TA} {a : Am} (ho : OL K r f) (h1 : SA K mg E ta a) : SL K mg E (tCB r ta) (lN f a) := by
  refine ⟨fun F σ en G H Q g h => ?_⟩
  refine sa_bind h1 g poL_err id h fun ds en1 vs G1 H1 p1 g1 s1 d1 => ?_
  obtain ⟨z, ez, pz⟩ := calm_bind (P := PoL K mg (E σ) F σ G Q) id p1
  exact ho.run G1 H1 vs ds z g1.gf.gh d1 ez Q fun p us G2 H2 f2 hp h3 h4 h5 => pz p us G2 H2 (g1.grow f2) (s1.trans f2.g0) h3 h4 h5 (h0_new g1 hp) (free_new g1 hp f2)
theorem sl_2 {r : R2} {f : D → D → Rs (List D)} {ta tb : TE} {a b : Em} (ho : O2L K r f) (h1 : SE K mg E ta a) (h2 : SE K mg E tb b) : SL K mg E (tOp r ta tb) (l2 f a b) := by
  refine ⟨fun F σ en G H Q g h => ?_⟩
  show ta σ H _
  refine se_bind h1 g poL_err id h fun d en1 v G1 H1 p1 g1 s1 d1 => ?_
  refine se_bind h2 g1 poL_err id p1 fun e en2 u G2 H2 p2 g2 s2 d2 => ?_
  obtain ⟨z, ez, pz⟩ := calm_bind (P := PoL K mg (E σ) F σ G Q) id p2
  exact ho.run G2 H2 v u d e z g2.gf.gh (dp_mono s2 _ _ d1) d2 ez Q fun p us G3 H3 f3 hp h3 h4 h5 => pz p us G3 H3 (g2.grow f3) ((s1.trans s2).trans f3.g0) h3 h4 h5 (h0_new g2 hp) (free_new g2 hp f3)
def tmB (a : Em) : Tm := fun en => (a en).bind fun p => match p.1 with
  | .bool b => .ok (b, p.2)
  | _ => .stk
theorem st_B {te : TE} {a : Em} (h1 : SE K mg E te a) : ST K mg E (tB te) (tmB a) := by
  refine ⟨fun F σ en G H Q g h => ?_⟩
  refine se_bind h1 g poT_err id h fun d en1 v G1 H1 p1 g1 s1 d1 => ?_
  split at p1
  · rename_i b e
    have e' : d = .bool b := e
    subst e'
    cases d1
    exact ⟨b, rfl, p1 G1 H1 g1 s1⟩
  · exact p1.elim
theorem st_test {te : TE} {a : Em} (h1 : SE K mg E te a) : ST K mg E (tTest te) (tmB a) := ⟨fun F σ en G H Q g h => (st_B h1).run F σ en G H Q g h⟩
/-- a value's truth -/
def tru : D → Rs Bool
  | .none => .ok false
  | .bool b => .ok b
  | .int i => .ok (i != 0)
  | .list xs => .ok (!xs.isEmpty)
  | .tuple xs => .ok (!xs.isEmpty)
  | _ => .stk
def tmTru (a : Em) : Tm := fun en => (a en).bind fun p => (tru p.1).calm.bind fun b => .ok (b, p.2)
theorem dpa_isEmpty {vs : List V} {ds : List D} (h : DpAll K G vs ds) : vs.isEmpty = ds.isEmpty := by cases h <;> rfl
theorem st_tru {te : TE} {a : Em} (h1 : SE K mg E te a) : ST K mg E (fun σ H Q => te σ H fun x H' => ∃ k, TruV K x H' k ∧ Q k H') (tmTru a) := by
  refine ⟨fun F σ en G H Q g h => ?_⟩
  refine se_bind h1 g poT_err id h fun d en1 v G1 H1 p1 g1 s1 d1 => ?_
  obtain ⟨b, eb, pb⟩ := calm_bind (P := PoT K mg (E σ) F σ G Q) id p1
  refine ⟨b, ?_, pb G1 H1 g1 s1⟩
  have dH := dp_mono g1.gf.gh _ _ d1
  cases d with
  | none => cases dH; cases eb; rfl
  | bool c => cases dH; cases eb; rfl
  | int i => cases dH; cases eb; rfl
  | str x => cases eb
  | list xs =>
    cases eb
    cases dH with
    | lst hs ha => exact .inl ⟨_, hs, by rw [dpa_isEmpty ha]⟩
  | tuple xs =>
    cases eb
    cases dH with
    | tup hs ha => exact .inr (.inl ⟨_, hs, by rw [dpa_isEmpty ha]⟩)
  | dict kvs => cases eb
def tmAnd (a b : Tm) : Tm := fun en => (a en).bind fun p => if p.1 = true then b p.2 else .ok (false, p.2)
def tmOr (a b : Tm) : Tm := fun en => (a en).bind fun p => if p.1 = true then .ok (true, p.2) else b p.2
def tmNot (a : Tm) : Tm := fun en => (a en).bind fun p => .ok (!p.1, p.2)
theorem PoT.up {Q : Bool → Hp → Prop} {x : Rs (Bool × En)} (s : Same G G') (h : PoT K mg (E σ) F σ G Q x) : PoT K mg (E σ) F σ G' Q x := by
  cases x with
  | ok a => obtain ⟨b, en'⟩ := a; exact fun G2 H2 g2 s2 => h G2 H2 g2 (s.trans s2)
  | err c fs => exact h
  | stk => exact h
theorem PoE.up {Q : VK} {x : Rs (D × En)} (s : Same G G') (h : PoE K mg (E σ) F σ G Q x) : PoE K mg (E σ) F σ G' Q x := by
  cases x with
  | ok a => obtain ⟨b, en'⟩ := a; exact fun v G2 H2 g2 s2 d => h v G2 H2 g2 (s.trans s2) d
  | err c fs => exact h
  | stk => exact h
theorem st_and {t u : TT} {a b : Tm} (h1 : ST K mg E t a) (h2 : ST K mg E u b) : ST K mg E (tAnd t u) (tmAnd a b) := by
  refine ⟨fun F σ en G H Q g h => ?_⟩
  show t σ H _
  refine st_bind h1 g poT_err id h fun k en1 G1 H1 p1 g1 s1 => ?_
  cases k with
  | true => exact h2.run F σ en1 G1 H1 Q g1 (PoT.up s1 p1)
  | false => exact p1 G1 H1 g1 s1
theorem st_or {t u : TT} {a b : Tm} (h1 : ST K mg E t a) (h2 : ST K mg E u b) : ST K mg E (tOr t u) (tmOr a b) := by
  refine ⟨fun F σ en G H Q g h => ?_⟩
  show t σ H _
  refine st_bind h1 g poT_err id h fun k en1 G1 H1 p1 g1 s1 => ?_
  cases k with
  | true => exact p1 G1 H1 g1 s1
  | false => exact h2.run F σ en1 G1 H1 Q g1 (PoT.up s1 p1)
theorem st_not {t : TT} {a : Tm} (h1 : ST K mg E t a) : ST K mg E (tNot t) (tmNot a) := by
  refine ⟨fun F σ en G H Q g h => ?_⟩
  show t σ H _
  exact st_bind h1 g poT_err id h fun k en1 G1 H1 p1 g1 s1 => p1 G1 H1 g1 s1
def eAnd (a b : Em) : Em := fun en => (a en).bind fun p => match p.1 with
  | .bool true => b p.2
  | .bool false => .ok (.bool false, p.2)
  | _ => .stk
def eOr (a b : Em) : Em := fun en => (a en).bind fun p => match p.1 with
  | .bool true => .ok (.bool true, p.2)
  | .bool false => b p.2
  | _ => .stk
def eNot (a : Em) : Em := fun en => (a en).bind fun p => match p.1 with
  | .bool b => .ok (.bool (!b), p.2)
  | _ => .stk
theorem se_and {ta tb : TE} {a b : Em} (h1 : SE K mg E ta a) (h2 : SE K mg E tb b) : SE K mg E (tAndV ta tb) (eAnd a b) := by
  refine ⟨fun F σ en G H Q g h => ?_⟩
  show ta σ H _
  refine se_bind h1 g poE_err id h fun d en1 v G1 H1 p1 g1 s1 d1 => ?_
  split at p1
  · rename_i e
    have e' : d = .bool true := e
    subst e'; cases d1
    exact ⟨true, rfl, h2.run F σ en1 G1 H1 Q g1 (PoE.up s1 p1)⟩
  · rename_i e
    have e' : d = .bool false := e
    subst e'; cases d1
    exact ⟨false, rfl, p1 _ G1 H1 g1 s1 (.bl false)⟩
  · exact p1.elim
theorem se_not {ta : TE} {a : Em} (h1 : SE K mg E ta a) : SE K mg E (tNotV ta) (eNot a) := by
  refine ⟨fun F σ en G H Q g h => ?_⟩
  show ta σ H _
  refine se_bind h1 g poE_err id h fun d en1 v G1 H1 p1 g1 s1 d1 => ?_
  split at p1
  · rename_i b e
    have e' : d = .bool b := e
    subst e'; cases d1
    exact ⟨b, rfl, p1 _ G1 H1 g1 s1 (.bl _)⟩
  · exact p1.elim
def eIf (t : Tm) (a b : Em) : Em := fun en => (t en).bind fun p => if p.1 = true then a p.2 else b p.2
theorem se_if {t : TT} {ta tb : TE} {m : Tm} {a b : Em} (h : ST K mg E t m) (h1 : SE K mg E ta a) (h2 : SE K mg E tb b) : SE K mg E (tIf t ta tb) (eIf m a b) := by
  refine ⟨fun F σ en G H Q g h0 => ?_⟩
  show t σ H _
  refine st_bind h g poE_err id h0 fun k en1 G1 H1 p1 g1 s1 => ?_
  cases k with
  | true => exact h1.run F σ en1 G1 H1 Q g1 (PoE.up s1 p1)
  | false => exact h2.run F σ en1 G1 H1 Q g1 (PoE.up s1 p1)
def gmName (j : Nat) : Gm := fun d en => .ok (en.set j (.dat d))
theorem sg_name {j : Nat} : SG K [j] (gName j) (gmName j) := by
  refine ⟨fun F σ en G H v d Q g hd h => ?_⟩
  refine h (σ.set j (some v)) List.length_set (fun k hk => ?_) (g.setDat hd)
  rw [List.getElem?_set_ne (fun z => hk (by simp [z]))]
def gmNames : List Nat → List D → En → Rs En
  | [], [], en => .ok en
  | j :: js, d :: ds, en => gmNames js ds (en.set j (.dat d))
  | _, _, _ => .stk
def gmTup (js : List Nat) : Gm := fun d en => match d with
  | .tuple ds => gmNames js ds en
  | _ => .stk
structure SGs (K : PySem.W.Frag) (js : List Nat) (g : TGs) : Prop where
  run : ∀ F σ en G H vs ds Q, Gd K F G H σ en → DpAll K G vs ds → (match gmNames js ds en with
    | .ok en' => ∀ σ', σ'.length = σ.length → (∀ k, k ∉ js → σ'[k]? = σ[k]?) → Gd K F G H σ' en' → Q σ' H
    | _ => False) → g vs σ H Q
theorem sgs_nil : SGs K [] gNil := by
  refine ⟨fun F σ en G H vs ds Q g hd h => ?_⟩
  cases hd with
  | nil => exact ⟨rfl, h σ rfl (fun _ _ => rfl) g⟩
  | cons _ _ => exact (show False from h).elim
theorem sgs_cons {j : Nat} {js : List Nat} {gs : TGs} (h2 : SGs K js gs) : SGs K (j :: js) (gCons (gName j) gs) := by
  refine ⟨fun F σ en G H vs ds Q g hd h => ?_⟩
  cases hd with
  | nil => exact (show False from h).elim
  | @cons v vs d ds h3 h4 =>
    refine ⟨v, vs, rfl, ?_⟩
    refine h2.run F (σ.set j (some v)) (en.set j (.dat d)) G H vs ds Q (g.setDat h3) h4 ?_
    have h' : (match gmNames js ds (en.set j (.dat d)) with
      | .ok en' => ∀ σ', σ'.length = σ.length → (∀ k, k ∉ j :: js → σ'[k]? = σ[k]?) → Gd K F G H σ' en' → Q σ' H
      | _ => False) := h
    revert h'
    cases gmNames js ds (en.set j (.dat d)) with
    | ok en' => exact fun h' σ' hl hk g' => h' σ' (hl.trans List.length_set) (fun k hk' => by
        rw [hk k (fun z => hk' (List.mem_cons_of_mem _ z)), List.getElem?_set_ne (fun z => hk' (by simp [z]))]) g'
    | err c fs => exact id
    | stk => exact id
theorem gmNames_len : ∀ (js : List Nat) (ds : List D) (en en' : En), gmNames js ds en = .ok en' → js.length = ds.length
  | [], [], _, _, _ => rfl
  | [], _ :: _, _, _, h => by cases h
  | _ :: _, [], _, _, h => by cases h
  | j :: js, d :: ds, en, en', h => by rw [List.length_cons, List.length_cons, gmNames_len js ds _ _ h]
theorem sg_tup {js : List Nat} {gs : TGs} {n : Nat} (hn : n = js.length) (h2 : SGs K js gs) : SG K js (gTup K n gs) (gmTup js) := by
  refine ⟨fun F σ en G H v d Q g hd h => ?_⟩
  unfold gmTup at h
  split at h
  · rename_i dd en' e
    split at e
    · rename_i ds
      cases hd with
      | @tup a xs _ hs ha =>
        refine ⟨a, xs, rfl, seqT_mono g.gf.gh hs, ?_, ?_⟩
        · rw [hn, dpa_len ha, gmNames_len _ _ _ _ e]
        · exact h2.run F σ en G H xs ds Q g ha (by rw [e]; exact h)
    · cases e
  · exact h.elim
end
end Mir
end
section
set_option Elab.async false
set_option linter.all false
set_option maxRecDepth 100000
set_option maxHeartbeats 4000000
namespace Mir
open PySem PySem.Spec PyProof.Rows L2
section
variable {K : PySem.W.Frag} {mg : Str → Option Value} {E : XK} {F : Fm} {σ : L2.St} {G G' H H' : Hp} {en : En}
theorem itOk_range {lo : Int} {n : Nat} : ItOk K G (Itr lo n) ((List.range n).map fun i => PyData.int (lo + (i : Nat))) := by
  intro i G1 H1 s1 s2
  refine ⟨fun d e => ?_, fun e => ?_⟩
  · have hi : i < n := by
      have := (List.getElem?_eq_some_iff.mp e).1
      simpa using this
    rw [List.getElem?_map, List.getElem?_range hi] at e
    cases e
    refine ⟨hi, fun x H2 y => ?_⟩
    obtain ⟨rfl, rfl⟩ := y
    exact ⟨G1, gf0_refl s2, .int _⟩
  · have := List.getElem?_eq_none_iff.mp e
    show n ≤ i
    simpa using this
end
section
variable {K : PySem.W.Frag} {mg : Str → Option Value} {E : XK} {F : Fm} {σ : L2.St} {G G' H H' : Hp} {en : En}
def mNext : Sm := fun en => .ok (.nx, en)
def mSeq (a b : Sm) : Sm := fun en => (a en).bind fun p => match p.1 with
  | .nx => b p.2
  | f => .ok (f, p.2)
theorem ss_next : SS K mg E tNext mNext := ⟨fun F σ en G H D g h => h σ G H g (Same.refl _)⟩
theorem ss_seq {t u : TS} {a b : Sm} (h1 : SS K mg E t a) (h2 : SS K mg E u b) : SS K mg E (tSeq t u) (mSeq a b) := by
  refine ⟨fun F σ en G H D g h => ?_⟩
  refine h1.run F σ en G H _ g ?_
  unfold mSeq at h
  cases q : a en with
  | ok x =>
    obtain ⟨f, en1⟩ := x
    rw [q] at h
    cases f with
    | nx => exact fun σ' G' H' g' s' => h2.run F σ' en1 G' H' D g' (PoS.up s' h)
    | bk => exact h
    | ct => exact h
    | rt d => exact h
  | err c fs => rw [q] at h; exact h
  | stk => rw [q] at h; exact h
def mBreak : Sm := fun en => .ok (.bk, en)
def mCont : Sm := fun en => .ok (.ct, en)
def mDrop (m : Em) : Sm := fun en => (m en).bind fun p => .ok (.nx, p.2)
theorem ss_drop {te : TE} {m : Em} (h1 : SE K mg (fun _ => E) te m) : SS K mg E (tDrop te) (mDrop m) := by
  refine ⟨fun F σ en G H D g h => ?_⟩
  show te σ H _
  exact se_bind h1 g poS_err id h fun d en1 v G1 H1 p1 g1 s1 d1 => p1 σ G1 H1 g1 s1
def mRet (m : Em) : Sm := fun en => (m en).bind fun p => .ok (.rt p.1, p.2)
theorem ss_ret {te : TE} {m : Em} (h1 : SE K mg (fun _ => E) te m) : SS K mg E (tRet te) (mRet m) := by
  refine ⟨fun F σ en G H D g h => ?_⟩
  show te σ H _
  exact se_bind h1 g poS_err id h fun d en1 v G1 H1 p1 g1 s1 d1 => p1 v σ G1 H1 g1 s1 d1
def mRetN : Sm := fun en => .ok (.rt .none, en)
/-- a = e -/
def mAsg (gm : Gm) (m : Em) : Sm := fun en => (m en).bind fun p => (gm p.1 p.2).calm.bind fun e => .ok (.nx, e)
theorem ss_asg {te : TE} {m : Em} {js : List Nat} {gt : TG} {gm : Gm} (h1 : SE K mg (fun _ => E) te m) (h2 : SG K js gt gm) : SS K mg E (tAsg te gt) (mAsg gm m) := by
  refine ⟨fun F σ en G H D g h => ?_⟩
  show te σ H _
  refine se_bind h1 g poS_err id h fun d en1 v G1 H1 p1 g1 s1 d1 => ?_
  obtain ⟨en2, e2, p2⟩ := calm_bind (P := PoS K mg E F G D) id p1
  refine h2.run F σ en1 G1 H1 v d _ g1 d1 ?_
  rw [show gm d en1 = .ok en2 from e2]
  exact fun σ' _ _ g' => p2 σ' G1 H1 g' s1
/-- a = a new list, which stays the name's own -/
def mAsgO (i : Nat) (m : Am) : Sm := fun en => (m en).bind fun p => .ok (.nx, p.2.set i (.own (.lst p.1)))
theorem ss_asgO {i : Nat} {te : TE} {m : Am} (h1 : SL K mg (fun _ => E) te m) : SS K mg E (tAsg te (gName i)) (mAsgO i m) := by
  refine ⟨fun F σ en G H D g h => ?_⟩
  show te σ H _
  exact sl_bind h1 g poS_err id h fun ds en1 p vs G1 H1 p1 g1 s1 hg hh hd h0 fr => p1 _ G1 H1 (g1.setOwn hg hh hd (.inr h0) fr) s1
/-- l.append(e), l the name's own list -/
def ownL (en : En) (i : Nat) : Option (List D) := match en[i]? with
  | some (.own (.lst ds)) => some ds
  | _ => none
theorem ownL_some {en : En} {i : Nat} {ds : List D} (h : ownL en i = some ds) : en[i]? = some (.own (.lst ds)) := by
  unfold ownL at h
  split at h
  · cases h; assumption
  · cases h
def mApp (i : Nat) (m : Em) : Sm := fun en => match ownL en i with
  | none => .stk
  | some _ => (m en).bind fun p => match ownL p.2 i with
    | none => .stk
    | some ds => if ds.length < big then .ok (.nx, p.2.set i (.own (.lst (ds ++ [p.1])))) else .stk
theorem ss_app {i : Nat} {te : TE} {m : Em} (h1 : SE K mg (fun _ => E) te m) : SS K mg E (tDrop (tBM K "list" rAppend (tVar i) (tCons te tNil))) (mApp i m) := by
  refine ⟨fun F σ en G H D g h => ?_⟩
  unfold mApp at h
  split at h
  · exact h.elim
  rename_i ds0 e0
  obtain ⟨p, vs, h1', h2, h3, h4, h5⟩ := g.own (ownL_some e0)
  refine ⟨.ref p, h1', .inl ⟨rfl, vs, .inl (.inl h3)⟩, ?_⟩
  show te σ H _
  refine se_bind h1 g poS_err id h fun d en1 v G1 H1 p1 g1 s1 d1 => ?_
  split at p1
  · exact p1.elim
  rename_i ds e1
  split at p1
  · rename_i hz
    obtain ⟨p', ws, k1, k2, k3, k4, k5⟩ := g1.own (ownL_some e1)
    rw [h1'] at k1; cases k1
    refine ⟨p, ws, v, rfl, rfl, k3, by rw [dpa_len k4]; exact big_lt hz, ?_⟩
    exact p1 σ G1 _ (g1.mut (ownL_some e1) h1' (dpa_app k4 (dpa_one d1))) s1
  · exact p1.elim
/-- l[k] = e -/
def ixI (n : Nat) : D → Option Nat
  | .int k => ixN n k
  | .bool _ => none
  | _ => none
theorem ixI_some {n j : Nat} {d : D} (h : ixI n d = some j) : ∃ k, d = .int k ∧ ixN n k = some j := by
  unfold ixI at h
  split at h
  · exact ⟨_, rfl, h⟩
  · cases h
  · cases h
def mIf (t : Tm) (a b : Sm) : Sm := fun en => (t en).bind fun p => if p.1 = true then a p.2 else b p.2
theorem ss_if {t : TT} {ta tb : TS} {m : Tm} {a b : Sm} (h : ST K mg (fun _ => E) t m) (h1 : SS K mg E ta a) (h2 : SS K mg E tb b) : SS K mg E (tIfS t ta tb) (mIf m a b) := by
  refine ⟨fun F σ en G H D g h0 => ?_⟩
  show t σ H _
  refine st_bind h g poS_err id h0 fun k en1 G1 H1 p1 g1 s1 => ?_
  cases k with
  | true => exact h1.run F σ en1 G1 H1 D g1 (PoS.up s1 p1)
  | false => exact h2.run F σ en1 G1 H1 D g1 (PoS.up s1 p1)
/-- for -/
def forGo (gm : Gm) (b : Sm) : List D → Sm
  | [], en => .ok (.nx, en)
  | d :: ds, en => (gm d en).calm.bind fun en1 => (b en1).bind fun p => match p.1 with
    | .nx => forGo gm b ds p.2
    | .ct => forGo gm b ds p.2
    | .bk => .ok (.nx, p.2)
    | .rt d => .ok (.rt d, p.2)
def mFor (im : Im) (gm : Gm) (b : Sm) : Sm := fun en => (im en).bind fun p => forGo gm b p.1 p.2
theorem drop_some {ds : List D} {i : Nat} {d : D} (h : ds[i]? = some d) : ds.drop i = d :: ds.drop (i + 1) := by
  obtain ⟨hi, e⟩ := List.getElem?_eq_some_iff.mp h
  rw [← e]
  exact List.drop_eq_getElem_cons hi
theorem ss_for {wi : TI} {im : Im} {js : List Nat} {gt : TG} {gm : Gm} {tb : TS} {b : Sm} (h : SI K mg (fun _ => E) wi im) (hg : SG K js gt gm) (hb : SS K mg E tb b) : SS K mg E (tFor wi gt tb) (mFor im gm b) := by
  refine ⟨fun F σ en G H D g h0 => ?_⟩
  show wi σ H _
  refine si_bind h g poS_err id h0 fun ds en1 J G1 H1 p1 g1 s1 it => ?_
  refine ⟨fun i m σ' H' => ∃ G' en', m = ds.length - i ∧ i ≤ ds.length ∧ Gd K F G' H' σ' en' ∧ Same G1 G' ∧ PoS K mg E F G D (forGo gm b (ds.drop i) en'), ⟨ds.length, G1, en1, rfl, Nat.zero_le _, g1, Same.refl _, p1⟩, ?_⟩
  rintro i m σ' H' ⟨G', en', rfl, hi, g', s', p'⟩
  obtain ⟨it1, it2⟩ := it i G' H' s' g'.gf.gh
  cases hd : ds[i]? with
  | none =>
    have hle := List.getElem?_eq_none_iff.mp hd
    rw [List.drop_eq_nil_of_le hle] at p'
    exact .inl ⟨it2 hd, p' σ' G' H' g' (s1.trans s')⟩
  | some d =>
    obtain ⟨go, yl⟩ := it1 d hd
    have hlt := (List.getElem?_eq_some_iff.mp hd).1
    rw [drop_some hd] at p'
    refine .inr ⟨go, fun σ2 H2 => ∃ G2 en2, Gd K F G2 H2 σ2 en2 ∧ Same G1 G2 ∧ PoS K mg E F G D (forGo gm b (ds.drop (i + 1)) en2), fun σ2 H2 ⟨G2, en2, g2, s2, p2⟩ => ⟨ds.length - (i + 1), by omega, G2, en2, rfl, by omega, g2, s2, p2⟩, fun x H2 y => ?_⟩
    obtain ⟨G2, f2, dx⟩ := yl x H2 y
    have g2 := g'.grow f2
    have s2 : Same G1 G2 := s'.trans f2.g0
    obtain ⟨en3, e3, p3⟩ := calm_bind (P := PoS K mg E F G D) id p'
    refine hg.run F σ' en' G2 H2 x d _ g2 dx ?_
    rw [show gm d en' = .ok en3 from e3]
    intro σ3 _ hk g3
    refine hb.run F σ3 en3 G2 H2 _ g3 ?_
    cases qb : b en3 with
    | stk => rw [qb] at p3; exact p3.elim
    | err c fs => rw [qb] at p3; exact p3
    | ok z =>
      obtain ⟨f, en4⟩ := z
      rw [qb] at p3
      cases f with
      | nx => exact fun σ4 G4 H4 g4 s4 => ⟨G4, en4, g4, s2.trans s4, p3⟩
      | ct => exact fun σ4 G4 H4 g4 s4 => ⟨G4, en4, g4, s2.trans s4, p3⟩
      | bk => exact fun σ4 G4 H4 g4 s4 => p3 σ4 G4 H4 g4 ((s1.trans s2).trans s4)
      | rt e => exact fun v σ4 G4 H4 g4 s4 d4 => p3 v σ4 G4 H4 g4 ((s1.trans s2).trans s4) d4
/-- a def that changes nothing: m of its arguments' data -/
def spP (K : PySem.W.Frag) (mg : Str → Option Value) (m : List D → Rs D) : Sp := fun vs H Q E => ∃ G ds, Same G H ∧ DpAll K G vs ds ∧
  match m ds with
  | .ok d => ∀ v G' H', Gf (F0 G H) G' H' → Dp K G' v d → Q v H'
  | .err c fs => ∀ cls dx H', ErrAt K mg (F0 G H) c fs cls dx H' → E cls dx H'
  | .stk => False
def eCall (m : List D → Rs D) (a : Am) : Em := fun en => (a en).bind fun p => (m p.1).bind fun d => .ok (d, p.2)
end
end Mir
end
section
set_option Elab.async false
set_option linter.all false
set_option maxRecDepth 100000
set_option maxHeartbeats 4000000
namespace Mir
open PySem PySem.Spec PyProof.Rows L2
def iSeq (K : PySem.W.Frag) (tl : TE) : TI := fun σ H R => tl σ H fun x H1 => ∃ a, x = .ref a ∧ ((∃ xs, SqL K H1 a xs) ∧ R (Itl K a) H1 ∨ (∃ xs, SqT K H1 a xs) ∧ R (Itt K a) H1)
theorem pi_seq {X : Cx} {tg l : Expr} {tl : TE} (hl : PE X l tl) : PI X tg l (iSeq X.K tl) := by
  refine ⟨fun pins s σ H R I h => ?_⟩
  refine thn (hl.run pins s σ H _ I h) fun v s1 ⟨x, H1, I1, r1, q1⟩ => ?_
  obtain ⟨a, e, q⟩ := q1
  subst e
  cases r1
  rcases q with ⟨⟨xs, hq⟩, q⟩ | ⟨⟨xs, hq⟩, q⟩
  · obtain ⟨its, rv, p, hz⟩ := I1.list hq
    refine wpAny_pyIter_list p.isList ?_
    refine ⟨s1.heap.objs.size, [s1.heap.objs.size], _, _, H1, rfl, I1.kept (t' := s1.toks) fun b o e => Heap.get?_push_of_some _ e, turn_list a _, ⟨_, Heap.get?_push_size _ rfl, rfl, rfl⟩, fun b hb => ?_, q⟩
    have e : b = s1.heap.objs.size := by simpa using hb
    subst e
    exact I1.fpOk (Nat.le_refl _) (I1.hok.fresh (Nat.le_refl _))
  · obtain ⟨its, rv, p, hz⟩ := I1.tuple hq
    refine wpAny_pyIter_tuple (show s1.heap.IsTuple a its.toArray from p) ?_
    refine ⟨s1.heap.objs.size, [s1.heap.objs.size], _, _, H1, rfl, I1.kept (t' := s1.toks) fun b o e => Heap.get?_push_of_some _ e, turn_tuple a _, ⟨_, Heap.get?_push_size _ rfl, rfl, rfl⟩, fun b hb => ?_, q⟩
    have e : b = s1.heap.objs.size := by simpa using hb
    subst e
    exact I1.fpOk (Nat.le_refl _) (I1.hok.fresh (Nat.le_refl _))
section
variable {K : PySem.W.Frag} {mg : Str → Option Value} {E : L2.St → XK} {F : Fm} {σ : L2.St} {G G' H H' : Hp} {en : En}
theorem itOk_tup {a : Addr} {xs : List V} {ds : List D} (hs : SqT K G a xs) (hd : DpAll K G xs ds) : ItOk K G (Itt K a) ds := by
  intro i G1 H1 s1 s2
  have hq : SqT K H1 a xs := seqT_mono s2 (seqT_mono s1 hs)
  refine ⟨fun d e => ?_, fun e => ?_⟩
  · obtain ⟨v, ev, dv⟩ := dpa_get hd e
    refine ⟨⟨xs, v, hq, ev⟩, fun x H2 y => ?_⟩
    obtain ⟨rfl, y⟩ := y
    have : x = v := Option.some.inj ((y xs hq).symm.trans ev)
    subst this
    exact ⟨G1, gf0_refl s2, dp_mono s1 _ _ dv⟩
  · exact ⟨xs, hq, by
      have := dpa_len hd
      have := List.getElem?_eq_none_iff.mp e
      omega⟩
theorem itOk_lst {a : Addr} {xs : List V} {ds : List D} (hs : SqL K G a xs) (hd : DpAll K G xs ds) : ItOk K G (Itl K a) ds := by
  intro i G1 H1 s1 s2
  have hq : SqL K H1 a xs := s2.seq (s1.seq hs)
  refine ⟨fun d e => ?_, fun e => ?_⟩
  · obtain ⟨v, ev, dv⟩ := dpa_get hd e
    refine ⟨⟨xs, v, hq, ev⟩, fun x H2 y => ?_⟩
    obtain ⟨rfl, y⟩ := y
    have : x = v := Option.some.inj ((y xs hq).symm.trans ev)
    subst this
    exact ⟨G1, gf0_refl s2, dp_mono s1 _ _ dv⟩
  · exact ⟨xs, hq, by
      have := dpa_len hd
      have := List.getElem?_eq_none_iff.mp e
      omega⟩
/-- the items of a list or a tuple -/
def itemsOf : D → Rs (List D)
  | .list ds => .ok ds
  | .tuple ds => .ok ds
  | _ => .stk
def imSeq (m : Em) : Im := fun en => (m en).bind fun p => (itemsOf p.1).bind fun ds => .ok (ds, p.2)
theorem si_seq {tl : TE} {m : Em} (h1 : SE K mg E tl m) : SI K mg E (iSeq K tl) (imSeq m) := by
  refine ⟨fun F σ en G H R g h => ?_⟩
  show tl σ H _
  refine se_bind h1 g poI_err id h fun d en1 v G1 H1 p1 g1 s1 d1 => ?_
  cases d with
  | list ds =>
    cases d1 with
    | @lst a xs _ hs ha => exact ⟨a, rfl, .inl ⟨⟨xs, g1.gf.gh.seq hs⟩, p1 _ G1 H1 g1 s1 (itOk_lst hs ha)⟩⟩
  | tuple ds =>
    cases d1 with
    | @tup a xs _ hs ha => exact ⟨a, rfl, .inr ⟨⟨xs, seqT_mono g1.gf.gh hs⟩, p1 _ G1 H1 g1 s1 (itOk_tup hs ha)⟩⟩
  | none => exact (show False from p1).elim
  | bool b => exact (show False from p1).elim
  | int i => exact (show False from p1).elim
  | str x => exact (show False from p1).elim
  | dict kvs => exact (show False from p1).elim
/-- the ints lo, lo + 1, .. -/
def intsD (lo : Int) (n : Nat) : List D := (List.range n).map fun i => PyData.int (lo + (i : Nat))
def rng1 : List D → Rs (List D)
  | [.int n] => if n ≤ 100000 ∧ -100000 ≤ n then .ok (intsD 0 n.toNat) else .stk
  | _ => .stk
def rng2 : List D → Rs (List D)
  | [.int a, .int b] => if (a ≤ 100000 ∧ -100000 ≤ a) ∧ b ≤ 100000 ∧ -100000 ≤ b then .ok (intsD a (b - a).toNat) else .stk
  | _ => .stk
def imRng (f : List D → Rs (List D)) (a : Am) : Im := fun en => (a en).bind fun p => (f p.1).bind fun ds => .ok (ds, p.2)
theorem si_rng1 {ta : TA} {a : Am} (h1 : SA K mg E ta a) : SI K mg E (iRng1 ta) (imRng rng1 a) := by
  refine ⟨fun F σ en G H R g h => ?_⟩
  show ta σ H _
  refine sa_bind h1 g poI_err id h fun ds en1 vs G1 H1 p1 g1 s1 d1 => ?_
  have p1' : PoI K mg (E σ) F σ G R ((rng1 ds).bind fun ds => .ok (ds, en1)) := p1
  unfold rng1 at p1'
  split at p1'
  · rename_i n
    split at p1'
    · rename_i hn
      cases d1 with
      | cons a t =>
        cases a
        cases t
        refine ⟨n, rfl, by omega, by omega, p1' _ G1 H1 g1 s1 ?_⟩
        exact itOk_range
    · exact (show False from p1').elim
  · exact (show False from p1').elim
theorem si_rng2 {ta : TA} {a : Am} (h1 : SA K mg E ta a) : SI K mg E (iRng2 ta) (imRng rng2 a) := by
  refine ⟨fun F σ en G H R g h => ?_⟩
  show ta σ H _
  refine sa_bind h1 g poI_err id h fun ds en1 vs G1 H1 p1 g1 s1 d1 => ?_
  have p1' : PoI K mg (E σ) F σ G R ((rng2 ds).bind fun ds => .ok (ds, en1)) := p1
  unfold rng2 at p1'
  split at p1'
  · rename_i a b
    split at p1'
    · rename_i hn
      cases d1 with
      | cons x t =>
        cases x
        cases t with
        | cons y t =>
          cases y
          cases t
          refine ⟨a, b, rfl, ⟨by omega, by omega, by omega, by omega⟩, p1' _ G1 H1 g1 s1 ?_⟩
          exact itOk_range
    · exact (show False from p1').elim
  · exact (show False from p1').elim
/-- the names vs forgotten (they hold no own thing) -/
def wipeE (en : En) : List Nat → En
  | [] => en
  | v :: vs => (wipeE en vs).set v .un
def noOwn (en : En) (vs : List Nat) : Bool := vs.all fun i => match en[i]? with
  | some (.own _) => false
  | _ => true
/-- behind the block: the names vs are what they were -/
def restE (en en' : En) : List Nat → En
  | [] => en'
  | v :: vs => (restE en en' vs).set v (en.getD v .un)
theorem Gd.wipe {vs : List Nat} (g : Gd K F G H σ en) : Gd K F G H (wipe σ vs) (wipeE en vs) := by
  induction vs with
  | nil => exact g
  | cons v vs ih => exact ih.setUn
theorem wipe_other {σ : L2.St} {k : Nat} : ∀ {vs : List Nat}, k ∉ vs → (wipe σ vs)[k]? = σ[k]?
  | [], _ => rfl
  | v :: vs, h => by
    show ((wipe σ vs).set v none)[k]? = _
    rw [List.getElem?_set_ne (fun z => h (by simp [z])), wipe_other (fun z => h (List.mem_cons_of_mem _ z))]
theorem wipe_at {σ : L2.St} {k : Nat} : ∀ {vs : List Nat}, k ∈ vs → k < σ.length → (wipe σ vs)[k]? = some none
  | v :: vs, h, hk => by
    show ((wipe σ vs).set v none)[k]? = _
    by_cases q : v = k
    · subst q
      rw [List.getElem?_set_self (by rw [wipe_length]; exact hk)]
    · rw [List.getElem?_set_ne q]
      exact wipe_at (by
        rcases List.mem_cons.mp h with z | z
        · exact absurd z.symm q
        · exact z) hk
theorem wipe_eq {σ σ' : L2.St} {vs : List Nat} (hl : σ'.length = σ.length) (h : ∀ k, k ∉ vs → σ'[k]? = (wipe σ vs)[k]?) : wipe σ' vs = wipe σ vs := by
  refine List.ext_getElem? fun k => ?_
  by_cases hk : k ∈ vs
  · by_cases hb : k < σ.length
    · rw [wipe_at hk hb, wipe_at hk (by omega)]
    · rw [List.getElem?_eq_none (by rw [wipe_length]; omega), List.getElem?_eq_none (by rw [wipe_length]; omega)]
  · rw [wipe_other hk, h k hk]
/-- the turns of a comprehension's block -/
def lcGo (vs : List Nat) (gm : Gm) (t : Tm) (m : Em) : List D → Am
  | [], en => .ok ([], en)
  | d :: ds, en => (gm d en).calm.bind fun en1 => (t en1).calm.bind fun p => if p.1 = true then
      (m p.2).calm.bind fun q => (lcGo vs gm t m ds (wipeE q.2 vs)).bind fun r => .ok (q.1 :: r.1, r.2)
    else lcGo vs gm t m ds (wipeE p.2 vs)
def lLc (im : Im) (vs : List Nat) (gm : Gm) (t : Tm) (m : Em) : Am := fun en => (im en).bind fun p => if noOwn p.2 vs = true ∧ p.1.length ≤ big then
    (lcGo vs gm t m p.1 (wipeE p.2 vs)).calm.bind fun r => .ok (r.1, restE p.2 r.2 vs)
  else .stk
theorem bind_is {A B : Type} {x : Rs A} {f : A → Rs B} {b : B} (h : x.bind f = .ok b) : ∃ a, x = .ok a ∧ f a = .ok b := by
  cases x with
  | ok a => exact ⟨a, rfl, h⟩
  | err c fs => cases h
  | stk => cases h
theorem calm_is {A B : Type} {x : Rs A} {f : A → Rs B} {b : B} (h : x.calm.bind f = .ok b) : ∃ a, x = .ok a ∧ f a = .ok b := by
  cases x with
  | ok a => exact ⟨a, rfl, h⟩
  | err c fs => cases h
  | stk => cases h
/-- nobody's object changes -/
theorem Gd.other {p : Addr} {o : HO} (g : Gd K F G H σ en) (hg : G p = none) (h0 : F.H0 p = none) (fr : Free K G H σ en p) : Gd K F G (upd H p o) σ en ∧ Free K G (upd H p o) σ en p := by
  obtain ⟨om, s⟩ := g.sat
  have keep : ∀ {i : Nat} {v : V} {mo : MO} {as : List Addr}, en[i]? = some (SV.own mo) → σ[i]? = some (some v) → Own K G H v mo as → Own K G (upd H p o) v mo as := fun {i v mo as} e1 e2 ow =>
    ow.keep (Same.refl _) (fun a ha => (ow.live a ha).2) fun a ha x hx => by
      have q : a ≠ p := fun z => fr _ _ _ _ e1 e2 ow (by rw [← z]; exact ha)
      rw [upd_ne q]; exact hx
  refine ⟨⟨⟨g.gf.g0, fun a x e => ?_, g.gf.nf, fun a x e hz => ?_, fun a h => ?_⟩, g.len, ⟨om, fun i sv e => ?_⟩, fun i0 mo hm e => ?_⟩, fun i mo v as e1 e2 ow => ?_⟩
  · have : a ≠ p := fun z => by rw [z, hg] at e; cases e
    rw [upd_ne this]; exact g.gf.gh a x e
  · have : a ≠ p := fun z => by rw [z, h0] at e; cases e
    rw [upd_ne this]; exact g.gf.pres a x e hz
  · by_cases q : a = p
    · subst q; rw [upd_same]; exact fun z => by cases z
    · rw [upd_ne q]; exact g.gf.live a h
  · have q := s i sv e
    cases sv with
    | un => trivial
    | dat d => exact q
    | own mo => obtain ⟨v, as, h1, h2, h3⟩ := q; exact ⟨v, as, h1, keep e h1 h2, h3⟩
  · obtain ⟨h1, h2⟩ := g.pin i0 mo hm e
    exact ⟨h1, keep e h1 h2⟩
  · obtain ⟨v', as', k1, k2, k3⟩ := s i _ e1
    rw [e2] at k1; cases k1
    obtain rfl := ow.inj (keep e1 e2 k2)
    exact fr _ _ _ _ e1 e2 k2
theorem noOwn_at {en : En} {vs : List Nat} (h : noOwn en vs = true) {i : Nat} {mo : MO} (hi : i ∈ vs) : en[i]? ≠ some (.own mo) := fun e => by
  have := List.all_eq_true.mp h i hi
  rw [e] at this
  cases this
theorem restE_other {en en' : En} {k : Nat} : ∀ {vs : List Nat}, k ∉ vs → (restE en en' vs)[k]? = en'[k]?
  | [], _ => rfl
  | v :: vs, h => by
    show ((restE en en' vs).set v _)[k]? = _
    rw [List.getElem?_set_ne (fun z => h (by simp [z])), restE_other (fun z => h (List.mem_cons_of_mem _ z))]
theorem restE_len {en en' : En} : ∀ {vs : List Nat}, (restE en en' vs).length = en'.length
  | [] => rfl
  | v :: vs => by
    show ((restE en en' vs).set v _).length = _
    rw [List.length_set, restE_len]
theorem restE_at {en en' : En} {k : Nat} {sv : SV} (hl : en.length = en'.length) : ∀ {vs : List Nat}, k ∈ vs → (restE en en' vs)[k]? = some sv → en[k]? = some sv
  | v :: vs, h, e => by
    have e' : ((restE en en' vs).set v (en.getD v .un))[k]? = some sv := e
    by_cases q : v = k
    · subst q
      by_cases hb : v < en.length
      · rw [List.getElem?_set_self (by rw [restE_len]; omega)] at e'
        rw [← e', List.getD_eq_getElem?_getD, List.getElem?_eq_getElem hb]
        rfl
      · rw [List.getElem?_eq_none (by rw [List.length_set, restE_len]; omega)] at e'
        cases e'
    · rw [List.getElem?_set_ne q] at e'
      exact restE_at hl (by
        rcases List.mem_cons.mp h with z | z
        · exact absurd z.symm q
        · exact z) e'
theorem Gd.rest {vs : List Nat} {en' : En} (g : Gd K F G H σ en) (no : noOwn en vs = true) (s1 : Same G G') (g' : Gd K F G' H' (L2.wipe σ vs) en') : Gd K F G' H' σ (restE en en' vs) := by
  have hl : en.length = en'.length := by rw [g.len, g'.len, wipe_length]
  obtain ⟨om, s⟩ := g.sat
  obtain ⟨om', s'⟩ := g'.sat
  refine ⟨g'.gf, by rw [restE_len, g'.len, wipe_length], ⟨om', fun i sv e => ?_⟩, fun i0 mo hm e => ?_⟩
  · by_cases hi : i ∈ vs
    · have e1 := restE_at hl hi e
      have q := s i sv e1
      cases sv with
      | un => trivial
      | dat d => obtain ⟨v, h1, h2⟩ := q; exact ⟨v, h1, dp_mono s1 _ _ h2⟩
      | own mo => exact absurd e1 (noOwn_at no hi)
    · rw [restE_other hi] at e
      have q := s' i sv e
      rw [wipe_other hi] at q
      exact q
  · by_cases hi : i0 ∈ vs
    · exact absurd (restE_at hl hi e) (noOwn_at no hi)
    · rw [restE_other hi] at e
      obtain ⟨h1, h2⟩ := g'.pin i0 mo hm e
      rw [wipe_other hi] at h1
      exact ⟨h1, h2⟩
/-- what a slot owns keeps clear of what a frame keeps -/
theorem Gd.free {p : Addr} (g : Gd K F G H σ en) (h0 : F.H0 p ≠ none) (hz : ¬ F.Z p) : Free K G H σ en p := by
  intro i mo v as e1 e2 ow hp
  obtain ⟨om, s⟩ := g.sat
  obtain ⟨v', as', k1, k2, k3⟩ := s i _ e1
  rw [e2] at k1; cases k1
  obtain rfl := ow.inj k2
  rcases (k3 p hp).2 with z | z
  · exact hz z
  · exact h0 z
/-- the loop of a block that fills the list at L -/
theorem lc_loop {J : It} {ds : List D} {vs js : List Nat} {gt : TG} {gm : Gm} {tt : TT} {t : Tm} {te : TE} {m : Em} {L : Addr} {acc0 : List V} {da0 ds0 : List D} {en0 enF : En} {Qd : Hp → Prop}
    (hj : ∀ j ∈ js, j ∈ vs) (hg : SG K js gt gm) (ht : ST K mg (fun _ _ _ _ => False) tt t) (hm : SE K mg (fun _ _ _ _ => False) te m)
    (it : ItOk K G J ds) (g0 : Gd K F G H (wipe σ vs) en0) (hGL : G L = none) (h0L : F.H0 L = none) (hHL : H L = some (.lst acc0)) (hd0 : DpAll K G acc0 da0) (fr0 : Free K G H (wipe σ vs) en0 L) (hz0 : acc0.length + ds.length < sizeLine)
    (eF : lcGo vs gm t m ds en0 = .ok (ds0, enF))
    (fin : ∀ G' H' acc, Gd K F G' H' (wipe σ vs) enF → Same G G' → G' L = none → H' L = some (.lst acc) → DpAll K G' acc (da0 ++ ds0) → Free K G' H' (wipe σ vs) enF L → Qd H') :
    ∃ W : Nat → Nat → Hp → Prop, (∃ k, W 0 k H) ∧ ∀ i k H, W i k H → (J.stop i H ∧ Qd H) ∨ (J.go i H ∧ ∃ Nx : Hp → Prop, (∀ H', Nx H' → ∃ k', k' < k ∧ W (i + 1) k' H') ∧ ∀ x H', J.yld i H x H' → gt x (wipe σ vs) H' fun σ2 H2 => wipe σ2 vs = wipe σ vs ∧ tt σ2 H2 fun b H3 =>
      if b = true then te σ2 H3 fun y H4 => ∃ acc, H4 L = some (.lst acc) ∧ acc.length < sizeLine ∧ Nx (upd H4 L (.lst (acc ++ [y]))) else Nx H3) := by
  refine ⟨fun i k H' => ∃ G' en' acc da ds', k = ds.length - i ∧ i ≤ ds.length ∧ Gd K F G' H' (wipe σ vs) en' ∧ Same G G' ∧ G' L = none ∧ H' L = some (.lst acc) ∧ DpAll K G' acc (da0 ++ da) ∧ da.length ≤ i ∧ Free K G' H' (wipe σ vs) en' L ∧
    lcGo vs gm t m (ds.drop i) en' = .ok (ds', enF) ∧ da ++ ds' = ds0, ⟨ds.length, G, en0, acc0, [], ds0, rfl, Nat.zero_le _, g0, Same.refl _, hGL, hHL, by rw [List.append_nil]; exact hd0, Nat.le_refl _, fr0, eF, rfl⟩, ?_⟩
  rintro i k H' ⟨G', en', acc, da, ds', rfl, hi, g', s', hg', hh', hd', hda, fr', e', ea⟩
  obtain ⟨it1, it2⟩ := it i G' H' s' g'.gf.gh
  cases hd : ds[i]? with
  | none =>
    have hle := List.getElem?_eq_none_iff.mp hd
    rw [List.drop_eq_nil_of_le hle] at e'
    have e2 : ds' = [] ∧ enF = en' := by
      have : (Rs.ok (([] : List D), en')) = .ok (ds', enF) := e'
      injection this with this
      injection this with h1 h2
      exact ⟨h1.symm, h2.symm⟩
    obtain ⟨rfl, rfl⟩ := e2
    rw [List.append_nil] at ea
    subst ea
    exact .inl ⟨it2 hd, fin G' H' acc g' s' hg' hh' hd' fr'⟩
  | some d =>
    obtain ⟨go, yl⟩ := it1 d hd
    have hlt := (List.getElem?_eq_some_iff.mp hd).1
    rw [drop_some hd] at e'
    have e'' : ((gm d en').calm.bind fun en1 => (t en1).calm.bind fun p => if p.1 = true then
        (m p.2).calm.bind fun q => (lcGo vs gm t m (ds.drop (i + 1)) (wipeE q.2 vs)).bind fun r => .ok (q.1 :: r.1, r.2)
      else lcGo vs gm t m (ds.drop (i + 1)) (wipeE p.2 vs)) = .ok (ds', enF) := e'
    obtain ⟨en2, q2, e3⟩ := calm_is e''
    obtain ⟨⟨b, en3⟩, q3, e4⟩ := calm_is e3
    refine .inr ⟨go, fun H2 => ∃ G2 en2 acc2 da2 ds2, Gd K F G2 H2 (wipe σ vs) en2 ∧ Same G G2 ∧ G2 L = none ∧ H2 L = some (.lst acc2) ∧ DpAll K G2 acc2 (da0 ++ da2) ∧ da2.length ≤ i + 1 ∧ Free K G2 H2 (wipe σ vs) en2 L ∧
      lcGo vs gm t m (ds.drop (i + 1)) en2 = .ok (ds2, enF) ∧ da2 ++ ds2 = ds0, fun H2 ⟨G2, en2, acc2, da2, ds2, z1, z2, z3, z5, z6, z7, z8, z9, z10⟩ => ⟨ds.length - (i + 1), by omega, G2, en2, acc2, da2, ds2, rfl, by omega, z1, z2, z3, z5, z6, z7, z8, z9, z10⟩, fun x H2 y => ?_⟩
    obtain ⟨G2, f2, dx⟩ := yl x H2 y
    have gR := g'.rebase
    have hz : ¬ (F.re K G' H' (wipe σ vs) en').Z L := by
      rintro ⟨j, mo, v, as, e1, e2, ow, ha⟩
      exact fr' j mo v as e1 e2 ow ha
    have hL0 : (F.re K G' H' (wipe σ vs) en').H0 L ≠ none := by
      show H' L ≠ none
      rw [hh']; exact fun z => by cases z
    have g2 := gR.grow f2
    refine hg.run _ (wipe σ vs) en' G2 H2 x d _ g2 dx ?_
    rw [show gm d en' = .ok en2 from q2]
    intro σ3 hl3 hk3 g3
    have hw : wipe σ3 vs = wipe σ vs := wipe_eq (by rw [hl3, wipe_length]) fun k hk => hk3 k fun z => hk (hj k z)
    refine ⟨hw, ?_⟩
    refine ht.run _ σ3 en2 G2 H2 _ g3 ?_
    rw [show t en2 = .ok (b, en3) from q3]
    intro G4 H4 g4 s4
    have at4 : H4 L = some (.lst acc) := g4.gf.pres L _ hh' hz
    have gn4 : G4 L = none := g4.gf.nf L hL0 hg' hz
    have sG4 : Same G' G4 := f2.g0.trans s4
    cases b with
    | false =>
      have gw := g'.back (g4.wipe (vs := vs))
      rw [hw] at gw
      have e5 : lcGo vs gm t m (ds.drop (i + 1)) (wipeE en3 vs) = .ok (ds', enF) := e4
      have frw := (g4.wipe (vs := vs)).free hL0 hz
      rw [hw] at frw
      exact ⟨G4, wipeE en3 vs, acc, da, ds', gw, s'.trans sG4, gn4, at4, dpa_mono sG4 _ _ hd', by omega, frw, e5, ea⟩
    | true =>
      rw [if_pos rfl]
      have e5 : ((m en3).calm.bind fun q => (lcGo vs gm t m (ds.drop (i + 1)) (wipeE q.2 vs)).bind fun r => .ok (q.1 :: r.1, r.2)) = .ok (ds', enF) := e4
      obtain ⟨⟨z, en4⟩, q5, e6⟩ := calm_is e5
      obtain ⟨⟨dsr, enr⟩, q6, e7⟩ := bind_is e6
      injection e7 with e7
      injection e7 with e8 e9
      have e9' : enr = enF := e9
      subst e9'
      refine hm.run _ σ3 en3 G4 H4 _ g4 ?_
      rw [show m en3 = .ok (z, en4) from q5]
      intro v G5 H5 g5 s5 dv
      have at5 : H5 L = some (.lst acc) := g5.gf.pres L _ hh' hz
      have gn5 : G5 L = none := g5.gf.nf L hL0 hg' hz
      have sG5 : Same G' G5 := sG4.trans s5
      have gw := g'.back (g5.wipe (vs := vs))
      rw [hw] at gw
      have frw := (g5.wipe (vs := vs)).free hL0 hz
      rw [hw] at frw
      have hal := dpa_len hd'
      have hal0 := dpa_len hd0
      rw [List.length_append] at hal
      obtain ⟨ga, fa⟩ := gw.other (o := .lst (acc ++ [v])) gn5 h0L frw
      refine ⟨acc, at5, by omega, G5, wipeE en4 vs, acc ++ [v], da ++ [z], dsr, ga, s'.trans sG5, gn5, upd_same, ?_, by rw [List.length_append]; exact Nat.succ_le_succ hda, fa, q6, ?_⟩
      · rw [← List.append_assoc]
        exact dpa_app (dpa_mono sG5 _ _ hd') (dpa_one dv)
      · rw [← ea, ← e8, List.append_assoc]
        rfl
theorem sl_lc {wi : TI} {im : Im} {vs js : List Nat} {gt : TG} {gm : Gm} {tt : TT} {t : Tm} {te : TE} {m : Em} (h : SI K mg E wi im) (hj : ∀ j ∈ js, j ∈ vs) (hg : SG K js gt gm) (ht : ST K mg (fun _ _ _ _ => False) tt t) (hm : SE K mg (fun _ _ _ _ => False) te m) :
    SL K mg E (tLc wi gt tt te vs) (lLc im vs gm t m) := by
  refine ⟨fun F σ en G H Q g h0 => ?_⟩
  show wi σ H _
  refine si_bind h g poL_err id h0 fun ds en1 J G1 H1 p1 g1 s1 it => ?_
  have p1' : PoL K mg (E σ) F σ G Q (if noOwn en1 vs = true ∧ ds.length ≤ big then (lcGo vs gm t m ds (wipeE en1 vs)).calm.bind fun r => .ok (r.1, restE en1 r.2 vs) else .stk) := p1
  split at p1'
  case isFalse => exact p1'.elim
  rename_i hno
  obtain ⟨no, hlen⟩ := hno
  obtain ⟨⟨all, enF⟩, eF, pF⟩ := calm_bind (P := PoL K mg (E σ) F σ G Q) id p1'
  intro L hL
  have hGL : G1 L = none := Same.free g1.gf.gh hL
  have f := gf0_new (o := .lst []) g1.gf.gh hL
  have gw := (g1.grow f).wipe (vs := vs)
  refine lc_loop (Qd := fun H => Q (.ref L) H) (acc0 := []) (da0 := []) hj hg ht hm it gw hGL (h0_new g1 hL) upd_same .nil (free_new (g1.wipe (vs := vs)) hL f) (by
    show 0 + ds.length < sizeLine
    rw [Nat.zero_add]; exact Nat.lt_of_le_of_lt hlen (by decide)) eF fun G' H' acc g' s' hg' hh' hd' fr' => ?_
  refine pF L acc G' H' (g1.rest no s' g') (s1.trans s') hg' hh' hd' (h0_new g1 hL) fun j mo v as e1 e2 ow => ?_
  by_cases hj' : j ∈ vs
  · have hl : en1.length = enF.length := by rw [g1.len, g'.len, wipe_length]
    exact absurd (restE_at hl hj' e1) (noOwn_at no hj')
  · rw [restE_other hj'] at e1
    exact fr' j mo v as e1 (by rw [wipe_other hj']; exact e2) ow
/-- two clauses -/
def lc2Go (vs vs1 : List Nat) (gm : Gm) (t : Tm) (im1 : Im) (gm1 : Gm) (t1 : Tm) (m : Em) : List D → Am
  | [], en => .ok ([], en)
  | d :: ds, en => (gm d en).calm.bind fun en1 => (t en1).calm.bind fun p => if p.1 = true then
      (im1 p.2).calm.bind fun q => if noOwn q.2 vs1 = true ∧ q.1.length ≤ 10000 then (lcGo vs1 gm1 t1 m q.1 (wipeE q.2 vs1)).calm.bind fun r => (lc2Go vs vs1 gm t im1 gm1 t1 m ds (wipeE r.2 vs)).bind fun z => .ok (r.1 ++ z.1, z.2) else .stk
    else lc2Go vs vs1 gm t im1 gm1 t1 m ds (wipeE p.2 vs)
def lLc2 (im : Im) (vs vs1 : List Nat) (gm : Gm) (t : Tm) (im1 : Im) (gm1 : Gm) (t1 : Tm) (m : Em) : Am := fun en => (im en).bind fun p => if noOwn p.2 vs = true ∧ p.1.length ≤ 1000 then
    (lc2Go vs vs1 gm t im1 gm1 t1 m p.1 (wipeE p.2 vs)).calm.bind fun r => .ok (r.1, restE p.2 r.2 vs)
  else .stk
theorem lcGo_len {vs : List Nat} {gm : Gm} {t : Tm} {m : Em} : ∀ {ds : List D} {en : En} {ds' : List D} {en' : En}, lcGo vs gm t m ds en = .ok (ds', en') → ds'.length ≤ ds.length
  | [], en, ds', en', h => by
    have : (Rs.ok (([] : List D), en)) = .ok (ds', en') := h
    injection this with this
    injection this with h1 h2
    rw [← h1]; exact Nat.le_refl _
  | d :: ds, en, ds', en', h => by
    have h' : ((gm d en).calm.bind fun en1 => (t en1).calm.bind fun p => if p.1 = true then
      (m p.2).calm.bind fun q => (lcGo vs gm t m ds (wipeE q.2 vs)).bind fun r => .ok (q.1 :: r.1, r.2)
      else lcGo vs gm t m ds (wipeE p.2 vs)) = .ok (ds', en') := h
    obtain ⟨en1, q1, h'⟩ := calm_is h'
    obtain ⟨p, q2, h'⟩ := calm_is h'
    split at h'
    · obtain ⟨q, q3, h'⟩ := calm_is h'
      obtain ⟨r, q4, h'⟩ := bind_is h'
      injection h' with h'
      injection h' with h1 h2
      rw [← h1, List.length_cons, List.length_cons]
      exact Nat.succ_le_succ (lcGo_len q4)
    · exact Nat.le_succ_of_le (lcGo_len h')
theorem wipe_wipe {σ : L2.St} {vs vs1 : List Nat} (h : ∀ j ∈ vs1, j ∈ vs) : wipe (wipe σ vs1) vs = wipe σ vs :=
  wipe_eq (wipe_length _ _) fun k hk => by rw [wipe_other (fun z => hk (h k z)), wipe_other hk]
theorem wipeE_own {en : En} {i : Nat} {mo : MO} : ∀ {vs : List Nat}, (wipeE en vs)[i]? = some (.own mo) → i ∉ vs ∧ en[i]? = some (.own mo)
  | [], h => ⟨by simp, h⟩
  | v :: vs, h => by
    have h' : ((wipeE en vs).set v .un)[i]? = some (.own mo) := h
    by_cases q : v = i
    · subst q
      by_cases hb : v < (wipeE en vs).length
      · rw [List.getElem?_set_self hb] at h'; cases h'
      · rw [List.getElem?_eq_none (by rw [List.length_set]; omega)] at h'; cases h'
    · rw [List.getElem?_set_ne q] at h'
      obtain ⟨h1, h2⟩ := wipeE_own h'
      exact ⟨by simp only [List.mem_cons, not_or]; exact ⟨fun e => q e.symm, h1⟩, h2⟩
theorem free_wipe {p : Addr} {vs : List Nat} (f : Free K G H σ en p) : Free K G H (wipe σ vs) (wipeE en vs) p := by
  intro i mo v as e1 e2 ow
  obtain ⟨h1, h2⟩ := wipeE_own e1
  rw [wipe_other h1] at e2
  exact f i mo v as h2 e2 ow
theorem sl_lc2 {wi wi1 : TI} {im im1 : Im} {vs vs1 js js1 : List Nat} {gt gt1 : TG} {gm gm1 : Gm} {tt tt1 : TT} {t t1 : Tm} {te : TE} {m : Em} (h : SI K mg E wi im) (hj : ∀ j ∈ js, j ∈ vs) (hg : SG K js gt gm) (ht : ST K mg (fun _ _ _ _ => False) tt t)
    (h1 : SI K mg (fun _ _ _ _ => False) wi1 im1) (hv : ∀ j ∈ vs1, j ∈ vs) (hj1 : ∀ j ∈ js1, j ∈ vs1) (hg1 : SG K js1 gt1 gm1) (ht1 : ST K mg (fun _ _ _ _ => False) tt1 t1) (hm : SE K mg (fun _ _ _ _ => False) te m) :
    SL K mg E (tLc2 wi gt tt wi1 gt1 tt1 te vs vs1) (lLc2 im vs vs1 gm t im1 gm1 t1 m) := by
  refine ⟨fun F σ en G H Q g h0 => ?_⟩
  show wi σ H _
  refine si_bind h g poL_err id h0 fun ds en1 J G1 H1 p1 g1 s1 it => ?_
  have p1' : PoL K mg (E σ) F σ G Q (if noOwn en1 vs = true ∧ ds.length ≤ 1000 then (lc2Go vs vs1 gm t im1 gm1 t1 m ds (wipeE en1 vs)).calm.bind fun r => .ok (r.1, restE en1 r.2 vs) else .stk) := p1
  split at p1'
  case isFalse => exact p1'.elim
  rename_i hno
  obtain ⟨no, hlen⟩ := hno
  obtain ⟨⟨all, enF⟩, eF, pF⟩ := calm_bind (P := PoL K mg (E σ) F σ G Q) id p1'
  intro L hL
  have hGL : G1 L = none := Same.free g1.gf.gh hL
  have h0L := h0_new g1 hL
  refine ⟨fun i k H' => ∃ G' en' acc da ds', k = ds.length - i ∧ i ≤ ds.length ∧ Gd K F G' H' (wipe σ vs) en' ∧ Same G1 G' ∧ G' L = none ∧ H' L = some (.lst acc) ∧ DpAll K G' acc da ∧ da.length ≤ i * 10000 ∧ Free K G' H' (wipe σ vs) en' L ∧
    lc2Go vs vs1 gm t im1 gm1 t1 m (ds.drop i) en' = .ok (ds', enF) ∧ da ++ ds' = all, ⟨ds.length, ?_⟩, ?_⟩
  · have f := gf0_new (o := .lst []) g1.gf.gh hL
    have gw := (g1.grow f).wipe (vs := vs)
    exact ⟨G1, wipeE en1 vs, [], [], all, rfl, Nat.zero_le _, gw, Same.refl _, hGL, upd_same, .nil, Nat.zero_le _, free_new (g1.wipe (vs := vs)) hL f, eF, rfl⟩
  rintro i k H' ⟨G', en', acc, da, ds', rfl, hi, g', s', hg', hh', hd', hda, fr', e', ea⟩
  obtain ⟨it1, it2⟩ := it i G' H' s' g'.gf.gh
  cases hd : ds[i]? with
  | none =>
    have hle := List.getElem?_eq_none_iff.mp hd
    rw [List.drop_eq_nil_of_le hle] at e'
    have e2 : ds' = [] ∧ enF = en' := by
      have : (Rs.ok (([] : List D), en')) = .ok (ds', enF) := e'
      injection this with this
      injection this with h1 h2
      exact ⟨h1.symm, h2.symm⟩
    obtain ⟨rfl, rfl⟩ := e2
    rw [List.append_nil] at ea
    subst ea
    refine .inl ⟨it2 hd, pF L acc G' H' (g1.rest no s' g') (s1.trans s') hg' hh' hd' h0L fun j mo v as e1 e2 ow => ?_⟩
    by_cases hj' : j ∈ vs
    · have hl : en1.length = enF.length := by rw [g1.len, g'.len, wipe_length]
      exact absurd (restE_at hl hj' e1) (noOwn_at no hj')
    · rw [restE_other hj'] at e1
      exact fr' j mo v as e1 (by rw [wipe_other hj']; exact e2) ow
  | some d =>
    obtain ⟨go, yl⟩ := it1 d hd
    have hlt := (List.getElem?_eq_some_iff.mp hd).1
    rw [drop_some hd] at e'
    have e'' : ((gm d en').calm.bind fun en1 => (t en1).calm.bind fun p => if p.1 = true then
        (im1 p.2).calm.bind fun q => if noOwn q.2 vs1 = true ∧ q.1.length ≤ 10000 then (lcGo vs1 gm1 t1 m q.1 (wipeE q.2 vs1)).calm.bind fun r => (lc2Go vs vs1 gm t im1 gm1 t1 m (ds.drop (i + 1)) (wipeE r.2 vs)).bind fun z => .ok (r.1 ++ z.1, z.2) else .stk
      else lc2Go vs vs1 gm t im1 gm1 t1 m (ds.drop (i + 1)) (wipeE p.2 vs)) = .ok (ds', enF) := e'
    obtain ⟨en2, q2, e3⟩ := calm_is e''
    obtain ⟨⟨b, en3⟩, q3, e4⟩ := calm_is e3
    refine .inr ⟨go, fun H2 => ∃ G2 en2 acc2 da2 ds2, Gd K F G2 H2 (wipe σ vs) en2 ∧ Same G1 G2 ∧ G2 L = none ∧ H2 L = some (.lst acc2) ∧ DpAll K G2 acc2 da2 ∧ da2.length ≤ (i + 1) * 10000 ∧ Free K G2 H2 (wipe σ vs) en2 L ∧
      lc2Go vs vs1 gm t im1 gm1 t1 m (ds.drop (i + 1)) en2 = .ok (ds2, enF) ∧ da2 ++ ds2 = all, fun H2 ⟨G2, en2, acc2, da2, ds2, z1, z2, z3, z5, z6, z7, z8, z9, z10⟩ => ⟨ds.length - (i + 1), by omega, G2, en2, acc2, da2, ds2, rfl, by omega, z1, z2, z3, z5, z6, z7, z8, z9, z10⟩, fun x H2 y => ?_⟩
    obtain ⟨G2, f2, dx⟩ := yl x H2 y
    have gR := g'.rebase
    have hz : ¬ (F.re K G' H' (wipe σ vs) en').Z L := by
      rintro ⟨j, mo, v, as, e1, e2, ow, ha⟩
      exact fr' j mo v as e1 e2 ow ha
    have hL0 : (F.re K G' H' (wipe σ vs) en').H0 L ≠ none := by
      show H' L ≠ none
      rw [hh']; exact fun z => by cases z
    have g2 := gR.grow f2
    refine hg.run _ (wipe σ vs) en' G2 H2 x d _ g2 dx ?_
    rw [show gm d en' = .ok en2 from q2]
    intro σ3 hl3 hk3 g3
    have hw : wipe σ3 vs = wipe σ vs := wipe_eq (by rw [hl3, wipe_length]) fun k hk => hk3 k fun z => hk (hj k z)
    refine ⟨hw, ?_⟩
    refine ht.run _ σ3 en2 G2 H2 _ g3 ?_
    rw [show t en2 = .ok (b, en3) from q3]
    intro G4 H4 g4 s4
    have at4 : H4 L = some (.lst acc) := g4.gf.pres L _ hh' hz
    have gn4 : G4 L = none := g4.gf.nf L hL0 hg' hz
    have sG4 : Same G' G4 := f2.g0.trans s4
    cases b with
    | false =>
      have gw := g'.back (g4.wipe (vs := vs))
      rw [hw] at gw
      have e5 : lc2Go vs vs1 gm t im1 gm1 t1 m (ds.drop (i + 1)) (wipeE en3 vs) = .ok (ds', enF) := e4
      have frw := (g4.wipe (vs := vs)).free hL0 hz
      rw [hw] at frw
      exact ⟨G4, wipeE en3 vs, acc, da, ds', gw, s'.trans sG4, gn4, at4, dpa_mono sG4 _ _ hd', by omega, frw, e5, ea⟩
    | true =>
      rw [if_pos rfl]
      have e5 : ((im1 en3).calm.bind fun q => if noOwn q.2 vs1 = true ∧ q.1.length ≤ 10000 then (lcGo vs1 gm1 t1 m q.1 (wipeE q.2 vs1)).calm.bind fun r => (lc2Go vs vs1 gm t im1 gm1 t1 m (ds.drop (i + 1)) (wipeE r.2 vs)).bind fun z => .ok (r.1 ++ z.1, z.2) else .stk) = .ok (ds', enF) := e4
      obtain ⟨⟨ds1, en4⟩, q5, e6⟩ := calm_is e5
      split at e6
      case isFalse => cases e6
      rename_i hno1
      obtain ⟨no1, hlen1⟩ := hno1
      obtain ⟨⟨dr, enI⟩, q6, e7⟩ := calm_is e6
      obtain ⟨⟨dz, enz⟩, q7, e8⟩ := bind_is e7
      injection e8 with e8
      injection e8 with e9 e10
      have e10' : enz = enF := e10
      subst e10'
      refine h1.run _ σ3 en3 G4 H4 _ g4 ?_
      rw [show im1 en3 = .ok (ds1, en4) from q5]
      intro J1 G5 H5 g5 s5 it5
      have at5 : H5 L = some (.lst acc) := g5.gf.pres L _ hh' hz
      have gn5 : G5 L = none := g5.gf.nf L hL0 hg' hz
      have sG5 : Same G' G5 := sG4.trans s5
      have fr5 := (g5.wipe (vs := vs1)).free hL0 hz
      have gb5 := g'.back (g5.wipe (vs := vs1))
      have hal := dpa_len hd'
      refine lc_loop (σ := σ3) hj1 hg1 ht1 hm it5 gb5 gn5 h0L at5 (dpa_mono sG5 _ _ hd') fr5 (by
        rw [hal]
        have hb : ds1.length ≤ 10000 := hlen1
        have : i * 10000 ≤ 1000 * 10000 := Nat.mul_le_mul_right _ (by omega)
        rw [sizeLine_eq]
        omega) q6 fun G6 H6 acc6 g6 s6 hg6 hh6 hd6 fr6 => ?_
      have gw := g6.wipe (vs := vs)
      rw [wipe_wipe hv, hw] at gw
      have frw := free_wipe (vs := vs) fr6
      rw [wipe_wipe hv, hw] at frw
      refine ⟨G6, wipeE enI vs, acc6, da ++ dr, dz, gw, (s'.trans sG5).trans s6, hg6, hh6, hd6, ?_, frw, q7, ?_⟩
      · rw [List.length_append]
        have := lcGo_len q6
        have hb : ds1.length ≤ 10000 := hlen1
        have : (i + 1) * 10000 = i * 10000 + 10000 := by rw [Nat.add_mul]
        omega
      · rw [← ea, ← e9, List.append_assoc]
end
end Mir
end
section
set_option Elab.async false
set_option linter.all false
set_option maxRecDepth 100000
set_option maxHeartbeats 4000000
namespace Mir
open PySem PySem.Spec PyProof.Rows L2
/-- how an exception lies behind a call (the kit has two ways of telling it) -/
class CxK where
  cx : Program → World → CXT
  no : ∀ (P : Program) (w : World) (outer : List Env) (H : Hp) (s : Shared) (u : Value) (s' : Shared), ¬ cx P w outer H s (fun _ _ _ => False) u s'
/-- as FnOk, where no guard stands around the call -/
structure FnG (P : Program) (w : World) (K : PySem.W.Frag) (mg : Str → Option Value) (base : Heap) (C : CXT) (k : Nat) (f : Addr) (fd : FuncData) (ps : List Str) (sp : Sp) : Prop where
  size : ∀ vs H Q E, sp vs H Q E → vs.length = ps.length
  go : ∀ (A : Around) (outer : List Env) (s : Shared) (H : Hp) (args : Args) (us : List Value) (vs : List V) (Q : VK) (E : XK), A.guards = some [] → Room k A → Env0 P w K mg base A outer s H →
    BindsTo s fd args (ps.zip us) → Vals vs us → sp vs H Q E → codeAny (model P w) A (.call (.ref f) args) (CR C outer P w H s Q E) s
section
variable {P : Program} {w : World} {K : PySem.W.Frag} {mg : Str → Option Value} {base : Heap} {x qual : Str} {params : Arguments} {body : List Stmt} {scope : Scope} {dvs : List V} {kws : List (Str × V)} {f : Addr} {fd : FuncData}
/-- a def's body keeps its promise where no guard stands -/
theorem fnG_of {C : CXT} {N ps : List Str} {k : Nat} {sp : Sp} (F : FunD K x qual params body scope dvs kws f fd) (S : FnScope N ps scope) (len : ∀ vs H Q E, sp vs H Q E → vs.length = ps.length)
    (hbody : ∀ (cdv : Value) (A : Around) (outer : List Env) (s : Shared) (H : Hp) (vs : List V) (Q : VK) (E : XK), (A.deeper (envOfC qual scope s.heap.objs.size f cdv)).guards = some [] → Room k (A.deeper (envOfC qual scope s.heap.objs.size f cdv)) → sp vs H Q E →
      ∃ t, PSs (cxOf C P w K mg base N qual scope f cdv A outer s H E) body t ∧ t { nx := fun _ H' => Q .non H', rt := Q } (L2.start N vs) H) : FnG P w K mg base C (k + 1) f fd ps sp := by
  obtain ⟨oc, od, dV, kV, doc, pm, an, cdv, ct, osl, rfl, lk, hcd, _, _⟩ := F.ex
  constructor
  · exact len
  intro A outer s H args us vs Q E hg hr e0 hb r hsp
  have stay : ∀ b o, base.get? b = some o → s.heap.get? b = some o := fun b o e => (e0.bs b o e).1
  have par : ∀ y ∈ ps.zip us, scope.names.lookup y.1 = some .local ∨ (scope.names.lookup y.1 = some .cell ∧ ((cellsFrom (s.heap.objs.size + 1) scope.names []).lookup y.1).isSome = true) := by
    intro y hy
    have hy' : (y.1, y.2) ∈ ps.zip us := hy
    rcases S.par y.1 (List.of_mem_zip hy').1 with q | q
    · exact Or.inl q
    · exact Or.inr ⟨q, PySem.W.cellsFrom_some _ _ _ (Or.inl q)⟩
  have KX : K.In s.heap := e0.mod.kin.keeps stay
  refine codeAny_call_function hr.depth (KX f _ lk) rfl S.co S.gen rfl (PySem.W.codeRec_of KX hcd) (hb _ _ _ _ ?_)
  refine wpAny_newFunctionEnv_cells S.kind par ?_
  rintro env rfl s1 z
  refine ⟨(e0.mod.nolimit.keeps stay).keeps z.toInCall.keep, codeAny_func ?_⟩
  obtain ⟨t, ht, hq⟩ := hbody cdv A outer s H vs Q E hg (hr.deeper _) hsp
  have J0 := inv_start (CX := C) (E := E) S hr.hd e0 (len _ _ _ _ hsp) r z
  refine wpAny_mono (ht.run [] s1 _ H _ J0 hq) ?_ ?_
  · intro fl s' hs
    cases fl with
    | next =>
      obtain ⟨σ', H', J, q⟩ := hs
      exact ⟨.non, H', J.os, J.bare, J.base, J.hok, rfl, q⟩
    | ret u =>
      obtain ⟨v, σ', H', J, rv, q⟩ := hs
      exact ⟨v, H', J.os, J.bare, J.base, J.hok, rv, q⟩
    | brk =>
      obtain ⟨_, _, _, q⟩ := hs
      exact q.elim
    | cont =>
      obtain ⟨_, _, _, q⟩ := hs
      exact q.elim
  · intro e s' hs
    exact hs
end
section
variable {X : Cx} {C : CXT} {k : Nat} {f : Addr} {fd : FuncData} {ps : List Str} {sp : Sp} {E : L2.St → XK} {x : Str} {p pos : Pos} {e : Expr} {es : List Expr} {t : TA}
theorem go_fn {pins : List (Addr × Obj)} {σ : L2.St} {H : Hp} {s : Shared} {Q : VK} {us : List Value} {vs : List V} (F : FnG X.prog X.w X.K X.mg X.base C k f fd ps sp) (hgd : X.A.guards = some []) (hr : Room k X.A) (hb : Binds X.K fd ps []) (hx : PassesAt C X σ (E σ))
    (I : Inv X pins σ H s) (r : Vals vs us) (h : sp vs H Q (E σ)) : wpAny (model X.prog X.w) X.A (call (.ref f) us) (EP X pins σ Q) X.xe s := by
  have hl : (us ++ []).length = ps.length := by
    rw [List.append_nil, ← r.length]
    exact F.size _ _ _ _ h
  have b := hb s us I.kIn hl
  rw [List.append_nil] at b
  refine wpAny_call (codeAny_mono (F.go X.A X.stack s H ⟨us, []⟩ us vs Q (E σ) hgd hr I.env0 b r h) ?_)
  intro rs s' hq
  cases rs with
  | error ev => exact hx pins H s ev s' I hq
  | ok fl =>
    cases fl with
    | ret u => exact I.after hq
    | next => exact (show False from hq).elim
    | brk => exact (show False from hq).elim
    | cont => exact (show False from hq).elim
/-- f(e, ..) -/
def tCallG (sp : Sp) (E : L2.St → XK) (t : TA) : TE := fun σ H Q => t σ H fun vs H1 => sp vs H1 Q (E σ)
theorem pe_callG (F : FnG X.prog X.w X.K X.mg X.base C k f fd ps sp) (hgd : X.A.guards = some []) (hr : Room k X.A) (hg : Gl X x) (hm : X.mg x = some (.ref f)) (hk : PySem.W.keepIn X.K (.ref f) = true) (hb : Binds X.K fd ps []) (hx : ∀ σ, PassesAt C X σ (E σ))
    (ha : PA X (e :: es) t) (hdb : (x == ("__debug__" : Str)) = false := by decide) (he : starEach (e :: es) X.env = (false, eval e X.env) :: starEach es X.env := by rfl) (hpl : (backTo pos (starEach es X.env)).any (·.1) = false := by rfl) :
    PE X (.Call (.Name x p) (e :: es) [] pos) (tCallG sp E t) := by
  constructor
  intro pins s σ H Q I h
  refine wpAny_Call_Name_kw (ld_glob I hg hm ?_ hdb)
  refine PySem.W.callWith_K (h₀ := X.base) I.ok.mod.kin hk (thn (ha.run pos pins s σ H _ I h) ?_) he hpl
  rintro us s1 ⟨vs, H1, I1, r, q⟩
  exact ⟨I1.kIn, go_fn F hgd hr hb (hx σ) I1 r q⟩
end
/-- from the heap behind the top: the law's def, called with the script, hands back True -/
theorem law_callG {P : Program} {w : World} {K : PySem.W.Frag} {mg mb : Str → Option Value} {C : CXT} {k : Nat} {fa a : Addr} {fd : FuncData} {x : Str} {sp : Sp} {s1 : Shared} {vs : List Value} {ns : List Int}
    (KX : K.In s1.heap) (hns : s1.heap.Ns mainGlobals mg) (hb : s1.heap.Ns builtinsNs mb) (hbb : ∀ x : Str, x ≠ "__name__" → mb x = bootBuiltins x) (hlim : s1.heap.NoLimit) (hg : s1.gens = #[])
    (ha : s1.heap.get? a = some { cls := .type "list", data := .seq vs.toArray }) (hi : IntsAre vs ns) (hl : ns.length ≤ sizeLine) (hr : Room k callerA)
    (F : ∀ base : Heap, K.In base → base.Ns mainGlobals mg → FnG P w K mg base C k fa fd [x] sp) (hbind : ∀ (s : Shared) (u : Value), BindsTo s fd ⟨[u], []⟩ [(x, u)])
    (hsp : ∀ H : Hp, SqL K H a (ns.map V.int) → sp [.ref a] H (fun v _ => v = .bl true) fun _ _ _ => False)
    (hC : ∀ H e s', C [] H s1 (fun _ _ _ => False) e s' → False) :
    codeAny (model P w) callerA (.call (.ref fa) ⟨[.ref a], []⟩) (fun r s' => r = .ok (.ret (.bool true)) ∧ OldK s1.heap s'.heap ∧ s'.os = s1.os ∧ AllBare s'.gens) s1 := by
  have rv := vals_ints hi
  have hsz : vs.toArray.size ≤ sizeLine := by
    rw [List.size_toArray, hi.length]
    exact hl
  -- one of two abstract heaps: the script is the module's own object, or it is tracked, locked
  obtain ⟨H, hS, hA, hK, hok⟩ : ∃ H : Hp, SqL K H a (ns.map V.int) ∧ (∀ b u, H b = some u → b = a ∧ u = .frz { cls := .type "list", data := .seq vs.toArray } (.lst (ns.map V.int))) ∧ (H a ≠ none → K.lookup a = none) ∧ HOk P w H s1.heap := by
    cases hk : K.lookup a with
    | some o =>
      have e := (KX a o hk).symm.trans ha
      have e' : o = { cls := .type "list", data := .seq vs.toArray } := Option.some.inj e
      subst e'
      exact ⟨fun _ => none, Or.inr ⟨_, vs.toArray, _, hk, rfl, rfl, rfl, hsz, by simpa using rv⟩, (fun b u z => by have z' : (none : Option HO) = some u := z; cases z'), (fun z => absurd rfl z), (fun b u z => by have z' : (none : Option HO) = some u := z; cases z')⟩
    | none =>
      have only : ∀ b u, upd (fun _ => none) a (.frz { cls := .type "list", data := .seq vs.toArray } (.lst (ns.map V.int))) b = some u → b = a ∧ u = .frz { cls := .type "list", data := .seq vs.toArray } (.lst (ns.map V.int)) := fun b u z => by
        by_cases q : b = a
        · subst q
          rw [upd_same] at z
          exact ⟨rfl, (Option.some.inj z).symm⟩
        · rw [upd_ne q] at z
          cases z
      refine ⟨upd (fun _ => none) a (.frz { cls := .type "list", data := .seq vs.toArray } (.lst (ns.map V.int))), Or.inl (Or.inr ⟨_, upd_same⟩), only, fun _ => rfl, fun b u z => ?_⟩
      obtain ⟨rfl, rfl⟩ := only b u z
      exact ⟨ha, by rw [List.length_map]; exact hl, vs, _, rv, ha⟩
  have free : ∀ b o, s1.heap.get? b = some o → b ≠ a → H b = none := fun b o _ hb => by
    cases q : H b with
    | none => rfl
    | some u => exact absurd (hA b u q).1 hb
  have down : ∀ b o, s1.heap.get? b = some o → b ≠ a → (hidT s1.heap H).get? b = some o := fun b o e hb => hidT_get e (free b o e hb)
  have nsD : ∀ {b : Addr} {m : Str → Option Value}, s1.heap.Ns b m → (hidT s1.heap H).Ns b m := by
    rintro b m ⟨o, es, ep, e, d, r⟩
    refine ⟨o, es, ep, down b o e ?_, d, r⟩
    rintro rfl
    rw [ha] at e
    cases e
    exact nomatch (show Data.seq vs.toArray _ = Data.dict es ep from d)
  have kD : K.In (hidT s1.heap H) := fun b o e => by
    by_cases hb : b = a
    · subst hb
      refine hidT_get (KX b o e) ?_
      cases q : H b with
      | none => rfl
      | some u =>
        have z := hK (by rw [q]; exact fun z => nomatch z)
        rw [z] at e
        cases e
    · exact down b o (KX b o e) hb
  obtain ⟨mc, l1, l2⟩ := hlim
  have e0 : Env0 P w K mg (hidT s1.heap H) callerA [] s1 H := {
    frames := rfl
    mod := ⟨kD, nsD hns, ⟨mb, nsD hb, hbb⟩, ⟨mc, nsD l1, l2⟩⟩
    bs := fun b o e => of_hidT e
    bsz := Nat.le_of_eq (hidT_size _ _)
    funs := trivial
    frf := fun b hb => absurd (show b ∈ ([] : List Addr) from hb) (by simp)
    hok := hok
    bare := .of_eq hg }
  refine codeAny_mono ((F _ kD (nsD hns)).go callerA [] s1 H ⟨[.ref a], []⟩ [.ref a] [.ref a] _ _ rfl hr e0 (hbind s1 (.ref a)) (.cons rfl .nil) (hsp H hS)) ?_
  intro rs s' hq
  cases rs with
  | error ev => exact (hC H ev s' hq).elim
  | ok fl =>
    cases fl with
    | next => exact (show False from hq).elim
    | brk => exact (show False from hq).elim
    | cont => exact (show False from hq).elim
    | ret u =>
      obtain ⟨v, H', os, bare, un, hok', rr, q⟩ := hq
      have q' : v = .bl true := q
      subst q'
      have ru : u = Value.bool true := rr
      subst ru
      refine ⟨rfl, OldK.of_keep ?_, os, bare⟩
      intro b o e
      cases qb : H b with
      | none => exact un.keep b o e qb (fun z => absurd (show b ∈ ([] : List Addr) from z) (by simp)) (by simp)
      | some hu =>
        obtain ⟨rfl, rfl⟩ := hA b hu qb
        have z2 := hok' b _ (un.frzs b _ _ qb)
        rw [ha] at e
        cases e
        exact z2.1
theorem walk_ofG [CxK] {l : PySem.W.OpenLaw} {n k : Nat} {q : Program} {loose : List Str} {XP : (Str → Option Value) → Heap → Prop} {YP : World → Heap → Prop} {d : DefRec} {x : Str}
    (hn : l.most = some n) (hn2 : n ≤ sizeLine) (hdf : d.params.defaults = []) (hr : Room k callerA)
    (F : ∀ (w : World) (mg : Str → Option Value) (fa : Addr) (h : Heap), YP w h → h.Ns mainGlobals mg → mg d.name = some (.ref fa) →
      ∃ (K : PySem.W.Frag) (fd : FuncData) (sp : Sp), K.In h ∧ (∀ (s : Shared) (u : Value), BindsTo s fd ⟨[u], []⟩ [(x, u)]) ∧
        (∀ (H : Hp) (a : Addr) (ns : List Int), ns.length ≤ n → (∀ z ∈ ns, Builtin.Int.intBits z ≤ 1048576) → SqL K H a (ns.map V.int) → sp [.ref a] H (fun v _ => v = .bl true) fun _ _ _ => False) ∧
        ∀ base : Heap, K.In base → base.Ns mainGlobals mg → FnG l.prog w K mg base (CxK.cx l.prog w) k fa fd [x] sp) :
    PySem.W.WalkO q loose XP YP l.row.toRowW d [] (fun f vs => PySem.call f vs) := by
  refine Att.attach_callB hn hdf fun w s0 s1 mg mb fa o pm cd doc a vs ns G Y ho hd hcd hmg hobj hints hlen hbits hg => ?_
  obtain ⟨K, fd, sp, KX, hb, hsp, hF⟩ := F w mg fa _ Y G.T.g hmg
  refine law_callG KX G.T.g G.T.b G.T.builtins G.T.nolimit hg hobj hints (Nat.le_trans hlen hn2) hr hF hb (fun H hS => hsp H a ns hlen hbits hS) fun H e s' hq => ?_
  exact CxK.no _ _ _ _ _ _ _ hq
end Mir
end
section
set_option Elab.async false
set_option linter.all false
set_option maxRecDepth 100000
set_option maxHeartbeats 4000000
namespace Mir
open PySem PySem.Spec PyProof.Rows L2
/-- what a body comes to -/
def endOf (x : Rs (Fl × En)) : Rs (D × En) := x.bind fun p => match p.1 with
  | .rt d => .ok (d, p.2)
  | .nx => .ok (.none, p.2)
  | _ => .stk
def enOf (n : Nat) (ds : List D) : En := ds.map SV.dat ++ List.replicate (n - ds.length) .un
def fnM (n np : Nat) (m : Sm) (ds : List D) : Rs D := if ds.length = np then (endOf (m (enOf n ds))).bind fun p => .ok p.1 else .stk
/-- .. whose first argument is an own source -/
def enOfS (n : Nat) (mo : MO) (ds : List D) : En := .own mo :: (ds.map SV.dat ++ List.replicate (n - (ds.length + 1)) .un)
/-- an entry at which only the source may be changed -/
def FS (G H : Hp) (p : V) (as : List Addr) : Fm := ⟨G, H, (· ∈ as), fun _ => p, fun _ => as⟩
theorem enOfS_own {n : Nat} {mo m1 : MO} {ds : List D} {i : Nat} (h : (enOfS n mo ds)[i]? = some (.own m1)) : i = 0 ∧ m1 = mo := by
  cases i with
  | zero =>
    have h' : some (SV.own mo) = some (SV.own m1) := h
    cases h'
    exact ⟨rfl, rfl⟩
  | succ i =>
    have h' : (ds.map SV.dat ++ List.replicate (n - (ds.length + 1)) .un)[i]? = some (.own m1) := h
    have := List.mem_of_getElem? h'
    rcases List.mem_append.mp this with z | z
    · obtain ⟨d, _, z⟩ := List.mem_map.mp z
      cases z
    · cases List.eq_of_mem_replicate z
section
variable {P : Program} {w : World} {K : PySem.W.Frag} {mg : Str → Option Value} {base : Heap} {x qual : Str} {params : Arguments} {body : List Stmt} {scope : Scope} {f : Addr} {fd : FuncData} {N ps : List Str} {k : Nat}
theorem start_get {vs : List V} {i : Nat} {v : V} (h : vs[i]? = some v) : (L2.start N vs)[i]? = some (some v) := by
  have hi := (List.getElem?_eq_some_iff.mp h).1
  unfold L2.start
  rw [List.getElem?_append_left (by rw [List.length_map]; exact hi), List.getElem?_map, h]
  rfl
theorem enOf_get {n : Nat} {ds : List D} {i : Nat} {sv : SV} (h : (enOf n ds)[i]? = some sv) : sv = .un ∨ ∃ d, ds[i]? = some d ∧ sv = .dat d := by
  unfold enOf at h
  by_cases hi : i < ds.length
  · rw [List.getElem?_append_left (by rw [List.length_map]; exact hi), List.getElem?_map] at h
    cases q : ds[i]? with
    | none => rw [q] at h; cases h
    | some d => rw [q] at h; cases h; exact .inr ⟨d, rfl, rfl⟩
  · rw [List.getElem?_append_right (by rw [List.length_map]; omega)] at h
    left
    have := List.mem_of_getElem? h
    exact List.eq_of_mem_replicate this
theorem gd_start {G H : Hp} {vs : List V} {ds : List D} (gh : Same G H) (hd : DpAll K G vs ds) (hn : vs.length ≤ N.length) : Gd K (F0 G H) G H (L2.start N vs) (enOf N.length ds) := by
  have hl := dpa_len hd
  refine ⟨gf0_refl gh, ?_, ⟨fun _ => 0, fun i sv e => ?_⟩, fun i0 c t e => ?_⟩
  · unfold enOf L2.start
    rw [List.length_append, List.length_append, List.length_map, List.length_map, List.length_replicate, List.length_replicate, hl]
  · rcases enOf_get e with rfl | ⟨d, e1, rfl⟩
    · trivial
    · obtain ⟨v, e2, dv⟩ := dpa_get hd e1
      exact ⟨v, start_get e2, dv⟩
  · rcases enOf_get e with e1 | ⟨d, e1, e2⟩
    · cases e1
    · cases e2
theorem fnP_ok [CxK] {m : Sm} (F : FunD K x qual params body scope [] [] f fd) (S : FnScope N ps scope) (hn : ps.length ≤ N.length)
    (hb : ∀ (cdv : Value) (A : Around) (outer : List Env) (s : Shared) (H : Hp) (E : XK), (A.deeper (envOfC qual scope s.heap.objs.size f cdv)).guards = some [] → Room k (A.deeper (envOfC qual scope s.heap.objs.size f cdv)) →
      ∃ t, PSs (cxOf (CxK.cx P w) P w K mg base N qual scope f cdv A outer s H E) body t ∧ SS K mg E t m) :
    FnG P w K mg base (CxK.cx P w) (k + 1) f fd ps (spP K mg (fnM N.length ps.length m)) := by
  have len : ∀ vs H Q E, spP K mg (fnM N.length ps.length m) vs H Q E → vs.length = ps.length := by
    rintro vs H Q E ⟨G, ds, gh, hd, h⟩
    by_cases q : ds.length = ps.length
    · rw [dpa_len hd, q]
    · have : fnM N.length ps.length m ds = .stk := if_neg q
      rw [this] at h
      exact h.elim
  refine fnG_of F S len fun cdv A outer s H vs Q E hgd hr hsp => ?_
  obtain ⟨t, h1, h2⟩ := hb cdv A outer s H E hgd hr
  refine ⟨t, h1, ?_⟩
  have hlen := len vs H Q E hsp
  obtain ⟨G, ds, gh, hd, h⟩ := hsp
  refine h2.run (F0 G H) _ (enOf N.length ds) G H _ (gd_start gh hd (by omega)) ?_
  have hq : ds.length = ps.length := by rw [← dpa_len hd]; exact hlen
  have e1 : fnM N.length ps.length m ds = (endOf (m (enOf N.length ds))).bind fun p => .ok p.1 := if_pos hq
  rw [e1] at h
  cases q : m (enOf N.length ds) with
  | stk => rw [q] at h; exact h
  | err c fs => rw [q] at h; exact h
  | ok z =>
    obtain ⟨fl, en'⟩ := z
    rw [q] at h
    cases fl with
    | nx => exact fun σ' G' H' g' _ => h .non G' H' g'.gf .non
    | bk => exact h.elim
    | ct => exact h.elim
    | rt d => exact fun v σ' G' H' g' _ dv => h v G' H' g'.gf dv
end
section
variable {K : PySem.W.Frag} {mg : Str → Option Value} {E : L2.St → XK} {F : Fm} {σ : L2.St} {G G' H H' : Hp} {en : En}
theorem se_callD {m : List D → Rs D} {ta : TA} {a : Am} (h1 : SA K mg E ta a) : SE K mg E (tCallG (spP K mg m) E ta) (eCall m a) := by
  refine ⟨fun F σ en G H Q g h => ?_⟩
  show ta σ H _
  refine sa_bind h1 g poE_err id h fun ds en1 vs G1 H1 p1 g1 s1 d1 => ?_
  refine ⟨G1, ds, g1.gf.gh, d1, ?_⟩
  have p1' : PoE K mg (E σ) F σ G Q ((m ds).bind fun d => .ok (d, en1)) := p1
  cases q : m ds with
  | stk => rw [q] at p1'; exact p1'.elim
  | err c fs =>
    rw [q] at p1'
    exact fun cls dx H' e => p1' cls dx H' (ErrAt.back (F' := F0 G1 H1) g1.gf rfl rfl (fun _ z => z.elim) e)
  | ok d =>
    rw [q] at p1'
    exact fun v G' H' f hd => p1' v G' H' (g1.grow f) (s1.trans f.g0) hd
/-- behind a call that changed the source -/
theorem Gd.callM {i : Nat} {v : V} {mo mo' : MO} {as : List Addr} (g : Gd K F G H σ en) (hm : mo.pin = true) (hm1 : mo'.pin1 = true → mo.pin1 = true) (e : en[i]? = some (.own mo)) (hv : σ[i]? = some (some v)) (ow : Own K G H v mo as) (f : Gf (FS G H v as) G' H') (ow' : Own K G' H' v mo' as) :
    Gd K F G' H' σ (en.set i (.own mo')) := by
  obtain ⟨om, s⟩ := g.sat
  have hi : i < en.length := (List.getElem?_eq_some_iff.mp e).1
  obtain ⟨v0, as0, k1, k2, k3⟩ := s i _ e
  rw [hv] at k1; cases k1
  obtain rfl := ow.inj k2
  have keep : ∀ {j : Nat} {u : V} {mo : MO} {bs : List Addr}, j ≠ i → (∀ a ∈ bs, om a = j) → Own K G H u mo bs → Own K G' H' u mo bs := fun {j u mo bs} nj hj o =>
    o.keep f.g0 (fun a ha => f.nf a (o.live a ha).1 (o.live a ha).2 fun z => nj ((hj a ha).symm.trans (k3 a z).1)) fun a ha x hx => f.pres a x hx fun z => nj ((hj a ha).symm.trans (k3 a z).1)
  refine ⟨g.gf.comp f rfl rfl (fun a z => (k3 a z).2), by rw [List.length_set, g.len], ⟨om, fun j sv e1 => ?_⟩, fun i0 m1 h1 e1 => ?_⟩
  · by_cases q : i = j
    · subst q
      rw [List.getElem?_set_self hi] at e1
      cases e1
      exact ⟨v, as, hv, ow', k3⟩
    · rw [List.getElem?_set_ne q] at e1
      have z := s j sv e1
      cases sv with
      | un => trivial
      | dat d => obtain ⟨u, l1, l2⟩ := z; exact ⟨u, l1, dp_mono f.g0 _ _ l2⟩
      | own mo =>
        obtain ⟨u, bs, l1, l2, l3⟩ := z
        exact ⟨u, bs, l1, keep (Ne.symm q) (fun a ha => (l3 a ha).1) l2, l3⟩
  · by_cases q : i = i0
    · subst q
      rw [List.getElem?_set_self hi] at e1
      cases e1
      obtain ⟨r1, r2⟩ := g.pin i mo (h1.elim (fun z => .inl ⟨z.1, hm⟩) fun z => .inr ⟨z.1, hm1 z.2⟩) e
      rw [hv] at r1; cases r1
      obtain r3 := ow.inj r2
      rw [← r3]
      exact ⟨hv, ow'⟩
    · rw [List.getElem?_set_ne q] at e1
      obtain ⟨r1, r2⟩ := g.pin i0 m1 h1 e1
      refine ⟨r1, ?_⟩
      obtain ⟨u, bs, l1, l2, l3⟩ := s i0 _ e1
      rw [r1] at l1; cases l1
      obtain rfl := l2.inj r2
      exact keep (Ne.symm q) (fun a ha => (l3 a ha).1) r2
end
end Mir
end
section
set_option Elab.async false
set_option linter.all false
set_option maxRecDepth 100000
set_option maxHeartbeats 4000000
namespace Mir
open PySem PySem.Spec PyProof.Rows L2
section
variable {K : PySem.W.Frag} {G H : Hp}
theorem gf_id (gh : Same G H) : Gf (F0 G H) G H := gf0_refl gh
def seqD : D → Option (List D)
  | .list ds => some ds
  | .tuple ds => some ds
  | _ => none
theorem seqD_dp {v : V} {d : D} {ds : List D} (gh : Same G H) (h : Dp K G v d) (e : seqD d = some ds) : ∃ a xs, v = .ref a ∧ (SqL K H a xs ∨ SqT K H a xs) ∧ DpAll K G xs ds := by
  cases d with
  | list es =>
    cases e
    cases h with
    | @lst a xs _ hs ha => exact ⟨a, xs, rfl, .inl (gh.seq hs), ha⟩
  | tuple es =>
    cases e
    cases h with
    | @tup a xs _ hs ha => exact ⟨a, xs, rfl, .inr (seqT_mono gh hs), ha⟩
  | none => cases e
  | bool b => cases e
  | int i => cases e
  | str x => cases e
  | dict kvs => cases e
def fI2 (g : Int → Int → D) (d e : D) : Rs D := match d, e with
  | .int i, .int j => .ok (g i j)
  | _, _ => .stk
def fI2c (c : Int → Int → Bool) (g : Int → Int → D) (d e : D) : Rs D := match d, e with
  | .int i, .int j => if c i j = true then .ok (g i j) else .stk
  | _, _ => .stk
theorem int2 {x y : V} {i j : Int} (h1 : Dp K G x (.int i)) (h2 : Dp K G y (.int j)) : x = .int i ∧ y = .int j := by cases h1; cases h2; exact ⟨rfl, rfl⟩
theorem o2_I {g : Int → Int → Int} : O2 K (rI0 fun i j => .int (g i j)) (fI2 fun i j => .int (g i j)) := by
  refine ⟨fun G H x y d e z gh h1 h2 hf Q q => ?_⟩
  unfold fI2 at hf
  split at hf
  · rename_i i j
    cases hf
    obtain ⟨rfl, rfl⟩ := int2 h1 h2
    exact ⟨i, j, rfl, rfl, q _ G H (gf_id gh) (.int _)⟩
  · cases hf
theorem o2_Ic {C : Int → Int → Prop} {c : Int → Int → Bool} {g : Int → Int → Int} (hc : ∀ i j, c i j = true → C i j) : O2 K (rI C fun i j => .int (g i j)) (fI2c c fun i j => .int (g i j)) := by
  refine ⟨fun G H x y d e z gh h1 h2 hf Q q => ?_⟩
  unfold fI2c at hf
  split at hf
  · rename_i i j
    split at hf
    · rename_i hh
      cases hf
      obtain ⟨rfl, rfl⟩ := int2 h1 h2
      exact ⟨i, j, rfl, rfl, hc i j hh, q _ G H (gf_id gh) (.int _)⟩
    · cases hf
  · cases hf
abbrev fSub := fI2 fun i j => .int (i - j)
def okMul (i j : Int) : Bool := decide (i.natAbs.log2 < 60000000) && decide (j.natAbs.log2 < 60000000)
abbrev fMul := fI2c okMul fun i j => .int (i * j)
def okDiv (_ j : Int) : Bool := decide (0 < j) && decide (j.natAbs.log2 < 9000)
abbrev fDiv := fI2c okDiv fun i j => .int (i / j)
def okMod (_ j : Int) : Bool := decide (0 < j)
abbrev fMod := fI2c okMod fun i j => .int (i % j)
theorem o_sub : O2 K (rI0 fun i j => .int (i - j)) fSub := o2_I
theorem o_mul : O2 K (rI CMulX fun i j => .int (i * j)) fMul := o2_Ic fun i j h => by
  unfold okMul at h
  rw [Bool.and_eq_true] at h
  have h1 := of_decide_eq_true h.1
  have h2 := of_decide_eq_true h.2
  exact mulx_ok Nat.lt_log2_self Nat.lt_log2_self (by omega)
theorem o_div : O2 K (rI CDivW fun i j => .int (i / j)) fDiv := o2_Ic fun i j h => by
  have h' : (decide (0 < j) && decide (j.natAbs.log2 < 9000)) = true := h
  rw [Bool.and_eq_true] at h'
  exact ⟨of_decide_eq_true h'.1, of_decide_eq_true h'.2⟩
theorem o_mod : O2 K (rI (fun _ j => 0 < j) fun i j => .int (i % j)) fMod := o2_Ic fun i j h => of_decide_eq_true h
def fNeg : D → Rs D
  | .int i => .ok (.int (-i))
  | _ => .stk
theorem o_neg : O1 K (rU fun i => .int (-i)) fNeg := by
  refine ⟨fun G H x d z gh h1 hf Q q => ?_⟩
  unfold fNeg at hf
  split at hf
  · cases hf; cases h1; exact ⟨_, rfl, q _ G H (gf_id gh) (.int _)⟩
  · cases hf
def sV : D → Option V
  | .none => some .non
  | .bool b => some (.bl b)
  | .int i => some (.int i)
  | .str x => some (.str x)
  | _ => Option.none
theorem dp_sV {z : D} {w : V} (h : sV z = some w) : Dp K G w z := by
  cases z with
  | none => cases h; exact .non
  | bool b => cases h; exact .bl b
  | int i => cases h; exact .int i
  | str x => cases h; exact .str x
  | list _ => cases h
  | tuple _ => cases h
  | dict _ => cases h
def rD2 (K : PySem.W.Frag) (f : D → D → Rs D) : R2 := fun x y H Q => ∃ d e z w, Dp K H x d ∧ Dp K H y e ∧ f d e = .ok z ∧ sV z = some w ∧ Q w H
def rDN (K : PySem.W.Frag) (f : List D → Rs D) : List V → Hp → VK → Prop := fun xs H Q => ∃ ds z w, DpAll K H xs ds ∧ f ds = .ok z ∧ sV z = some w ∧ Q w H
theorem o2_D {f : D → D → Rs D} (hf : ∀ d e z, f d e = .ok z → (sV z).isSome = true) : O2 K (rD2 K f) f := by
  refine ⟨fun G H x y d e z gh h1 h2 he Q q => ?_⟩
  obtain ⟨w, hw⟩ := Option.isSome_iff_exists.mp (hf d e z he)
  exact ⟨d, e, z, w, dp_mono gh _ _ h1, dp_mono gh _ _ h2, he, hw, q w G H (gf_id gh) (dp_sV hw)⟩
theorem oN_D {f : List D → Rs D} (hf : ∀ ds z, f ds = .ok z → (sV z).isSome = true) : ON K (rDN K f) f := by
  refine ⟨fun G H xs ds z gh h1 e Q q => ?_⟩
  obtain ⟨w, hw⟩ := Option.isSome_iff_exists.mp (hf ds z e)
  exact ⟨ds, z, w, dpa_mono gh _ _ h1, e, hw, q w G H (gf_id gh) (dp_sV hw)⟩
/-- a yes or no under a condition -/
def yn (c : Bool) (b : Bool) : Rs D := if c = true then .ok (.bool b) else .stk
theorem yn_is {c b : Bool} {z : D} (h : yn c b = .ok z) : c = true ∧ z = .bool b := by
  unfold yn at h
  split at h
  · rename_i hc; cases h; exact ⟨hc, rfl⟩
  · cases h
theorem yn_sV {c b : Bool} {z : D} (h : yn c b = .ok z) : (sV z).isSome = true := by
  obtain ⟨_, rfl⟩ := yn_is h
  rfl
def notNone : D → Bool
  | .none => false
  | _ => true
def okCmp (d e : D) : Bool := PySem.W.alike d e && notNone d && decide (d.depth ≤ 60) && (d.plain && e.plain)
def fLt (d e : D) : Rs D := yn (okCmp d e) (PySem.W.dataLt d e)
def fGt (d e : D) : Rs D := yn (okCmp d e) (PySem.W.dataLt e d)
def fLe (d e : D) : Rs D := yn (okCmp d e) (!PySem.W.dataLt e d)
def fGe (d e : D) : Rs D := yn (okCmp d e) (!PySem.W.dataLt d e)
def okEq (d e : D) : Bool := SeqAt.shaped d && SeqAt.shaped e
def fEq (d e : D) : Rs D := yn (okEq d e) (PyData.eqv d e)
def fNe (d e : D) : Rs D := yn (okEq d e) (!PyData.eqv d e)
def fIn (d e : D) : Rs D := match seqD e with
  | some ds => yn (okEq d e) (ds.any fun z => PyData.eqv z d)
  | none => .stk
theorem okCmp_is {d e : D} (h : okCmp d e = true) : PySem.W.alike d e = true ∧ d ≠ .none ∧ d.depth ≤ 60 ∧ d.plain = true ∧ e.plain = true := by
  unfold okCmp at h
  rw [Bool.and_eq_true, Bool.and_eq_true, Bool.and_eq_true, Bool.and_eq_true] at h
  refine ⟨h.1.1.1, fun z => ?_, of_decide_eq_true h.1.2, h.2.1, h.2.2⟩
  rw [z] at h
  exact absurd h.1.1.2 (by decide)
theorem plain_of_shaped {d : D} (h : SeqAt.shaped d = true) : d.plain = true := PyData.plain_of_canLay0 d (SeqAt.canLay_of_shaped h)
end
section
variable {X : Cx}
theorem cmp_room {A : Around} {d e : D} (hu : A.units + 65 < cLine) (h : d.depth ≤ 60) : A.units + min d.depth e.depth < cLine := by
  have := Nat.min_le_left d.depth e.depth
  omega
theorem op_ltG (hu : X.A.units + 65 < cLine) : OpR X (compareOp .Lt) (rD2 X.K fLt) := by
  intro pins s σ H x y v u Q I rx ry h
  obtain ⟨d, e, z, w, hd, he, hf, hw, q⟩ := h
  obtain ⟨c, rfl⟩ := yn_is hf
  obtain ⟨c1, c2, c3, c4, c5⟩ := okCmp_is c
  obtain ⟨as, r1⟩ := Dp.reads I d x v hd rx c4
  obtain ⟨bs, r2⟩ := Dp.reads I e y u he ry c5
  cases hw
  exact PySem.W.lt_data r1 r2 c1 c2 (cmp_room hu c3) ⟨.bl _, H, I, rfl, q⟩
theorem op_gtG (hu : X.A.units + 65 < cLine) : OpR X (compareOp .Gt) (rD2 X.K fGt) := by
  intro pins s σ H x y v u Q I rx ry h
  obtain ⟨d, e, z, w, hd, he, hf, hw, q⟩ := h
  obtain ⟨c, rfl⟩ := yn_is hf
  obtain ⟨c1, c2, c3, c4, c5⟩ := okCmp_is c
  obtain ⟨as, r1⟩ := Dp.reads I d x v hd rx c4
  obtain ⟨bs, r2⟩ := Dp.reads I e y u he ry c5
  cases hw
  exact PySem.W.gt_data r1 r2 c1 c2 (cmp_room hu c3) ⟨.bl _, H, I, rfl, q⟩
theorem op_leG (hu : X.A.units + 65 < cLine) : OpR X (compareOp .LtE) (rD2 X.K fLe) := by
  intro pins s σ H x y v u Q I rx ry h
  obtain ⟨d, e, z, w, hd, he, hf, hw, q⟩ := h
  obtain ⟨c, rfl⟩ := yn_is hf
  obtain ⟨c1, c2, c3, c4, c5⟩ := okCmp_is c
  obtain ⟨as, r1⟩ := Dp.reads I d x v hd rx c4
  obtain ⟨bs, r2⟩ := Dp.reads I e y u he ry c5
  cases hw
  exact PySem.W.le_data r1 r2 c1 c2 (cmp_room hu c3) ⟨.bl _, H, I, rfl, q⟩
theorem op_geG (hu : X.A.units + 65 < cLine) : OpR X (compareOp .GtE) (rD2 X.K fGe) := by
  intro pins s σ H x y v u Q I rx ry h
  obtain ⟨d, e, z, w, hd, he, hf, hw, q⟩ := h
  obtain ⟨c, rfl⟩ := yn_is hf
  obtain ⟨c1, c2, c3, c4, c5⟩ := okCmp_is c
  obtain ⟨as, r1⟩ := Dp.reads I d x v hd rx c4
  obtain ⟨bs, r2⟩ := Dp.reads I e y u he ry c5
  cases hw
  exact PySem.W.ge_data r1 r2 c1 c2 (cmp_room hu c3) ⟨.bl _, H, I, rfl, q⟩
theorem op_eqG (hu : X.A.units + 65 < cLine) : OpR X (compareOp .Eq) (rD2 X.K fEq) := by
  intro pins s σ H x y v u Q I rx ry h
  obtain ⟨d, e, z, w, hd, he, hf, hw, q⟩ := h
  obtain ⟨c, rfl⟩ := yn_is hf
  have c' : (SeqAt.shaped d && SeqAt.shaped e) = true := c
  rw [Bool.and_eq_true] at c'
  cases hw
  exact op_eqD (by omega) pins s σ H x y v u Q I rx ry ⟨d, e, Dp.toL d x (plain_of_shaped c'.1) hd, Dp.toL e y (plain_of_shaped c'.2) he, c'.1, c'.2, q⟩
theorem op_neG (hu : X.A.units + 65 < cLine) : OpR X (compareOp .NotEq) (rD2 X.K fNe) := by
  intro pins s σ H x y v u Q I rx ry h
  obtain ⟨d, e, z, w, hd, he, hf, hw, q⟩ := h
  obtain ⟨c, rfl⟩ := yn_is hf
  have c' : (SeqAt.shaped d && SeqAt.shaped e) = true := c
  rw [Bool.and_eq_true] at c'
  cases hw
  exact op_neD (by omega) pins s σ H x y v u Q I rx ry ⟨d, e, Dp.toL d x (plain_of_shaped c'.1) hd, Dp.toL e y (plain_of_shaped c'.2) he, c'.1, c'.2, q⟩
theorem op_inG (hu : X.A.units + 65 < cLine) : OpR X (compareOp .In) (rD2 X.K fIn) := by
  intro pins s σ H x y v u Q I rx ry h
  obtain ⟨d, e, z, w, hd, he, hf, hw, q⟩ := h
  unfold fIn at hf
  split at hf
  · rename_i ds hs
    obtain ⟨c, rfl⟩ := yn_is hf
    have c' : (SeqAt.shaped d && SeqAt.shaped e) = true := c
    rw [Bool.and_eq_true] at c'
    obtain ⟨as, r1⟩ := Dp.reads I d x v hd rx (plain_of_shaped c'.1)
    obtain ⟨bs, r2⟩ := Dp.reads I e y u he ry (plain_of_shaped c'.2)
    cases hw
    cases e with
    | list es =>
      cases hs
      exact SeqAt.in_list_reads r2 r1 (SeqAt.canLay_of_shaped c'.2) (SeqAt.canLay_of_shaped c'.1) (room_in_shaped c'.1 hu) ⟨.bl _, H, I, rfl, q⟩
    | tuple es =>
      cases hs
      exact SeqAt.in_tuple_reads r2 r1 (SeqAt.canLay_of_shaped c'.2) (SeqAt.canLay_of_shaped c'.1) (room_in_shaped c'.1 hu) ⟨.bl _, H, I, rfl, q⟩
    | _ => cases hs
  · cases hf
end
section
variable {K : PySem.W.Frag} {G H : Hp}
theorem o_lt : O2 K (rD2 K fLt) fLt := o2_D fun _ _ _ h => yn_sV h
theorem o_gt : O2 K (rD2 K fGt) fGt := o2_D fun _ _ _ h => yn_sV h
theorem o_le : O2 K (rD2 K fLe) fLe := o2_D fun _ _ _ h => yn_sV h
theorem o_ge : O2 K (rD2 K fGe) fGe := o2_D fun _ _ _ h => yn_sV h
theorem o_eq : O2 K (rD2 K fEq) fEq := o2_D fun _ _ _ h => yn_sV h
theorem o_ne : O2 K (rD2 K fNe) fNe := o2_D fun _ _ _ h => yn_sV h
theorem o_in : O2 K (rD2 K fIn) fIn := o2_D fun d e z h => by
  unfold fIn at h
  split at h
  · exact yn_sV h
  · cases h
/-- x is None, x is True -/
def fIs (d e : D) : Rs D := match e with
  | .none => .ok (.bool (!notNone d))
  | .bool b => match d with
    | .bool c => .ok (.bool (decide (c = b)))
    | _ => .stk
  | _ => .stk
theorem dp_non {v : V} {d : D} (h : Dp K G v d) : (v = .non) ↔ notNone d = false := by cases h <;> simp [notNone]
theorem o_is : O2 K (rD2 K fIs) fIs := o2_D fun d e z h => by
  unfold fIs at h
  split at h
  · cases h; rfl
  · split at h
    · cases h; rfl
    · cases h
  · cases h
end
section
variable {X : Cx}
theorem op_isG : OpR X (compareOp .Is) (rD2 X.K fIs) := by
  intro pins s σ H x y v u Q I rx ry h
  obtain ⟨d, e, z, w, hd, he, hf, hw, q⟩ := h
  unfold fIs at hf
  split at hf
  · cases hf
    cases hw
    cases he
    refine op_isN pins s σ H x .non v u Q I rx ry ⟨rfl, ?_⟩
    have e1 : decide (x = V.non) = !notNone d := by
      have := dp_non hd
      cases q1 : notNone d with
      | true => simp [this, q1]
      | false => simp [this, q1]
    rw [e1]
    exact q
  · split at hf
    · cases hf
      cases hw
      cases he
      cases hd
      exact op_is_bl pins s σ H _ _ v u Q I rx ry ⟨_, _, rfl, rfl, q⟩
    · cases hf
  · cases hf
def rAddL (K : PySem.W.Frag) : R2 := fun x y H Q => ∃ l b xs zs, x = .ref l ∧ y = .ref b ∧ SqL K H l xs ∧ SqL K H b zs ∧ xs.length + zs.length ≤ sizeLine ∧ ∀ p, H p = none → Q (.ref p) (upd H p (.lst (xs ++ zs)))
theorem op_addL : OpR X (binaryOp .Add) (rAddL X.K) := by
  intro pins s σ H x y v u Q I rx ry h
  obtain ⟨l, b, xs, zs, rfl, rfl, hH, hB, hz, q⟩ := h
  cases rx
  cases ry
  obtain ⟨its, r, ⟨⟨cls, dd, data, sl⟩, n, e, hc, hd, hs⟩, z1⟩ := I.list hH
  obtain ⟨its2, r2, ⟨⟨cls2, dd2, data2, sl2⟩, n2, e2, hc2, hd2, hs2⟩, z2⟩ := I.list hB
  have hl := r.length
  have hl2 := r2.length
  simp only at hc hd hs hc2 hd2 hs2
  subst hc hd hs hc2 hd2 hs2
  have ea : its.toArray ++ its2.toArray = (its ++ its2).toArray := by simp
  refine PySem.concat_meets ⟨_, e, rfl⟩ ⟨_, e2, rfl⟩ noFill_list_add seq_list_add PySem.F.slot_list_add PySem.F.entry_list_add (PySem.F.args_list_add_2 _ _) (list_addW l b its.toArray its2.toArray n n2 none none sl sl2 (by rw [List.size_toArray, List.size_toArray]; omega)) ⟨e, e2, ?_⟩
  rw [ea]
  refine ⟨.ref s.heap.objs.size, _, I.laid (t' := s.toks) (o := .lst (xs ++ zs)) (fun b ob q => Heap.get?_push_of_some _ q) (Nat.le_refl _) ?_, rfl, q _ (I.hok.fresh (Nat.le_refl _))⟩
  exact ⟨by rw [List.length_append]; exact hz, _, 0, r.append r2, Heap.get?_push_size _ rfl⟩
def rAdd3 (K : PySem.W.Frag) : R2 := fun x y H Q => (rI0 fun i j => .int (i + j)) x y H Q ∨ rCatA K x y H Q ∨ rAddL K x y H Q
theorem op_add3 : OpR X (binaryOp .Add) (rAdd3 X.K) := by
  intro pins s σ H x y v u Q I rx ry h
  rcases h with h | h | h
  · exact op_add pins s σ H x y v u Q I rx ry h
  · exact op_catA pins s σ H x y v u Q I rx ry h
  · exact op_addL pins s σ H x y v u Q I rx ry h
end
section
variable {K : PySem.W.Frag} {G H : Hp}
def fAdd : D → D → Rs D
  | .int i, .int j => .ok (.int (i + j))
  | .tuple xs, .tuple ys => if xs.length + ys.length ≤ big then .ok (.tuple (xs ++ ys)) else .stk
  | .list xs, .list ys => if xs.length + ys.length ≤ big then .ok (.list (xs ++ ys)) else .stk
  | _, _ => .stk
theorem dpa_nil {vs : List V} {ds : List D} (h : DpAll K G vs ds) : vs = [] ↔ ds = [] := by cases h <;> simp
theorem o_add : O2 K (rAdd3 K) fAdd := by
  refine ⟨fun G H x y d e z gh h1 h2 hf Q q => ?_⟩
  unfold fAdd at hf
  split at hf
  · cases hf
    obtain ⟨rfl, rfl⟩ := int2 h1 h2
    exact .inl ⟨_, _, rfl, rfl, q _ G H (gf_id gh) (.int _)⟩
  · rename_i ds es
    split at hf
    · rename_i hz
      cases hf
      cases h1 with
      | @tup a xs _ hs ha =>
        cases h2 with
        | @tup b ys _ hs2 ha2 =>
          refine .inr (.inl ⟨a, b, xs, ys, rfl, rfl, seqT_mono gh hs, seqT_mono gh hs2, by rw [dpa_len ha, dpa_len ha2]; exact big_line hz, fun e => ?_, fun e1 e2 => ?_, fun e1 e2 p hp => ?_⟩)
          · have e' := (dpa_nil ha).mp e
            rw [e'] at q
            exact q (.ref b) G H (gf_id gh) (.tup hs2 ha2)
          · have e' := (dpa_nil ha2).mp e2
            rw [e', List.append_nil] at q
            exact q (.ref a) G H (gf_id gh) (.tup hs ha)
          · have f := gf0_newG (o := .tup (xs ++ ys)) gh hp
            exact q (.ref p) _ _ f (.tup (.inl (.inl upd_same)) (dpa_mono f.g0 _ _ (dpa_app ha ha2)))
    · cases hf
  · rename_i ds es
    split at hf
    · rename_i hz
      cases hf
      cases h1 with
      | @lst a xs _ hs ha =>
        cases h2 with
        | @lst b ys _ hs2 ha2 =>
          refine .inr (.inr ⟨a, b, xs, ys, rfl, rfl, gh.seq hs, gh.seq hs2, by rw [dpa_len ha, dpa_len ha2]; exact big_line hz, fun p hp => ?_⟩)
          have f := gf0_newG (o := .lst (xs ++ ys)) gh hp
          exact q (.ref p) _ _ f (.lst (.inl (.inl upd_same)) (dpa_mono f.g0 _ _ (dpa_app ha ha2)))
    · cases hf
  · cases hf
/-- list + list as a new list that one may write to -/
def fAddL : D → D → Rs (List D)
  | .list xs, .list ys => if xs.length + ys.length ≤ big then .ok (xs ++ ys) else .stk
  | _, _ => .stk
theorem o_addL : O2L K (rAdd3 K) fAddL := by
  refine ⟨fun G H x y d e z gh h1 h2 hf Q q => ?_⟩
  unfold fAddL at hf
  split at hf
  · rename_i ds es
    split at hf
    · rename_i hz
      cases hf
      cases h1 with
      | @lst a xs _ hs ha =>
        cases h2 with
        | @lst b ys _ hs2 ha2 =>
          refine .inr (.inr ⟨a, b, xs, ys, rfl, rfl, gh.seq hs, gh.seq hs2, by rw [dpa_len ha, dpa_len ha2]; exact big_line hz, fun p hp => ?_⟩)
          exact q p (xs ++ ys) G _ (gf0_new gh hp) hp (Same.free gh hp) upd_same (dpa_app ha ha2)
    · cases hf
  · cases hf
end
end Mir
end
section
set_option Elab.async false
set_option linter.all false
set_option maxRecDepth 100000
set_option maxHeartbeats 4000000
namespace Mir
open PySem PySem.Spec PyProof.Rows L2
section
variable {K : PySem.W.Frag} {mg : Str → Option Value} {E : L2.St → XK} {F : Fm} {σ : L2.St} {G G' H H' : Hp} {en : En}
def fIx (d e : D) : Rs D := match seqD d, e with
  | some ds, .int i => match atI ds i with
    | some z => .ok z
    | none => .stk
  | _, _ => .stk
theorem dpa_atI {xs : List V} {ds : List D} {i : Int} {z : D} (h : DpAll K G xs ds) (e : atI ds i = some z) : ∃ v, atI xs i = some v ∧ Dp K G v z := by
  unfold atI at e ⊢
  rw [dpa_len h]
  cases q : ixN ds.length i with
  | none => rw [q] at e; cases e
  | some j =>
    rw [q] at e
    exact dpa_get h e
theorem o_ix : O2 K (rIx K) fIx := by
  refine ⟨fun G H x y d e z gh h1 h2 hf Q q => ?_⟩
  unfold fIx at hf
  split at hf
  · rename_i ds i hd
    split at hf
    · rename_i z' hz
      cases hf
      cases h2
      obtain ⟨a, xs, rfl, hs, ha⟩ := seqD_dp gh h1 hd
      obtain ⟨v, hv, dv⟩ := dpa_atI ha hz
      rcases hs with hs | hs
      · exact .inl ⟨a, xs, i, v, rfl, rfl, hs, hv, q v G H (gf_id gh) dv⟩
      · exact .inr (.inl ⟨a, xs, i, v, rfl, rfl, hs, hv, q v G H (gf_id gh) dv⟩)
    · cases hf
  · cases hf
abbrev Om := En → Rs (Option Int × En)
def PoO (K : PySem.W.Frag) (mg : Str → Option Value) (E : XK) (F : Fm) (σ : L2.St) (G : Hp) (Q : Option Int → Hp → Prop) : Rs (Option Int × En) → Prop
  | .ok (o, en') => ∀ G' H', Gd K F G' H' σ en' → Same G G' → Q o H'
  | .err c fs => ∀ cls dx H', ErrAt K mg F c fs cls dx H' → E cls dx H'
  | .stk => False
structure SO (K : PySem.W.Frag) (mg : Str → Option Value) (E : L2.St → XK) (to : TO) (m : Om) : Prop where
  run : ∀ F σ en G H Q, Gd K F G H σ en → PoO K mg (E σ) F σ G Q (m en) → to σ H Q
def oNone : Om := fun en => .ok (none, en)
def oSome (m : Em) : Om := fun en => (m en).bind fun p => match p.1 with
  | .int i => .ok (some i, p.2)
  | _ => .stk
theorem poO_err {Q : Option Int → Hp → Prop} (c fs) (h : PoO K mg (E σ) F σ G Q (.err c fs)) : ∀ cls dx H', ErrAt K mg F c fs cls dx H' → E σ cls dx H' := h
theorem so_none : SO K mg E tNoPart oNone := ⟨fun F σ en G H Q g h => h G H g (Same.refl _)⟩
theorem so_some {te : TE} {m : Em} (h1 : SE K mg E te m) : SO K mg E (tPart te) (oSome m) := by
  refine ⟨fun F σ en G H Q g h => ?_⟩
  show te σ H _
  refine se_bind h1 g poO_err id h fun d en1 v G1 H1 p1 g1 s1 d1 => ?_
  split at p1
  · rename_i i e
    have e' : d = .int i := e
    subst e'
    cases d1
    exact ⟨i, rfl, p1 G1 H1 g1 s1⟩
  · exact p1.elim
theorem so_bind {to : TO} {m : Om} {Q : Option Int → Hp → Prop} {B : Type} {P : Rs B → Prop} {f : Option Int × En → Rs B} (h : SO K mg E to m) (g : Gd K F G H σ en) (he : ∀ c fs, P (.err c fs) → ∀ cls dx H', ErrAt K mg F c fs cls dx H' → E σ cls dx H') (hs : ¬ P .stk)
    (p : P ((m en).bind f)) (k : ∀ o en' G' H', P (f (o, en')) → Gd K F G' H' σ en' → Same G G' → Q o H') : to σ H Q := by
  refine h.run F σ en G H Q g ?_
  cases q : m en with
  | ok a =>
    obtain ⟨d, en'⟩ := a
    rw [q] at p
    exact fun G' H' g' s' => k d en' G' H' p g' s'
  | err c fs =>
    rw [q] at p
    exact he c fs p
  | stk =>
    rw [q] at p
    exact hs p
def cutD (xs : List D) (lo hi : Option Int) : List D := (xs.drop (HT.sIx xs.length 0 lo)).take (HT.sIx xs.length xs.length hi - HT.sIx xs.length 0 lo)
theorem dpa_cut {xs : List V} {ds : List D} (lo hi : Option Int) (h : DpAll K G xs ds) : DpAll K G (cutV xs lo hi) (cutD ds lo hi) := by
  unfold cutV cutD
  rw [dpa_len h]
  exact dpa_take _ (dpa_drop _ h)
def rSl2 (K : PySem.W.Frag) : V → Option Int → Option Int → Hp → VK → Prop := fun x lo hi H Q => rSlL K x lo hi H Q ∨ rSlA K x lo hi H Q
theorem slr_2 {X : Cx} : SlR X (rSl2 X.K) := sl_list.or sl_tupA
def eSl (a : Em) (lo hi : Om) : Em := fun en => (a en).bind fun p => (lo p.2).bind fun q => (hi q.2).bind fun r => match p.1 with
  | .list ds => .ok (.list (cutD ds q.1 r.1), r.2)
  | .tuple ds => .ok (.tuple (cutD ds q.1 r.1), r.2)
  | _ => .stk
theorem cut_whole {xs : List V} {lo hi : Option Int} (h : HT.sIx xs.length 0 lo = 0 ∧ HT.sIx xs.length xs.length hi = xs.length) : cutV xs lo hi = xs := by
  unfold cutV
  rw [h.1, h.2]
  simp
theorem se_sl {te : TE} {tl th : TO} {a : Em} {lo hi : Om} (h1 : SE K mg E te a) (h2 : SO K mg E tl lo) (h3 : SO K mg E th hi) : SE K mg E (tSl (rSl2 K) te tl th) (eSl a lo hi) := by
  refine ⟨fun F σ en G H Q g h => ?_⟩
  show te σ H _
  refine se_bind h1 g poE_err id h fun d en1 v G1 H1 p1 g1 s1 d1 => ?_
  refine so_bind h2 g1 poE_err id p1 fun o en2 G2 H2 p2 g2 s2 => ?_
  refine so_bind h3 g2 poE_err id p2 fun o' en3 G3 H3 p3 g3 s3 => ?_
  have d3 := dp_mono (s2.trans s3) _ _ d1
  have s0 := (s1.trans s2).trans s3
  split at p3
  · rename_i ds e
    have e' : d = .list ds := e
    subst e'
    cases d3 with
    | @lst b xs _ hs ha =>
      refine .inl ⟨b, xs, rfl, g3.gf.gh.seq hs, fun p hp => ?_⟩
      have f := gf0_newG (o := .lst (cutV xs o o')) g3.gf.gh hp
      exact p3 (.ref p) _ _ (g3.grow f) (s0.trans f.g0) (.lst (.inl (.inl upd_same)) (dpa_mono f.g0 _ _ (dpa_cut _ _ ha)))
  · rename_i ds e
    have e' : d = .tuple ds := e
    subst e'
    cases d3 with
    | @tup b xs _ hs ha =>
      refine .inr ⟨b, xs, rfl, seqT_mono g3.gf.gh hs, fun w => ?_, fun w p hp => ?_⟩
      · refine p3 (.ref b) G3 H3 g3 s0 (.tup hs ?_)
        have := dpa_cut o o' ha
        rw [cut_whole w] at this
        exact this
      · have f := gf0_newG (o := .tup (cutV xs o o')) g3.gf.gh hp
        exact p3 (.ref p) _ _ (g3.grow f) (s0.trans f.g0) (.tup (.inl (.inl upd_same)) (dpa_mono f.g0 _ _ (dpa_cut _ _ ha)))
  · exact p3.elim
def fLen : List D → Rs D
  | [d] => match seqD d with
    | some ds => .ok (.int ds.length)
    | none => .stk
  | _ => .stk
theorem dpa1 {vs : List V} {d : D} (h : DpAll K G vs [d]) : ∃ v, vs = [v] ∧ Dp K G v d := by
  cases h with
  | cons a b => cases b; exact ⟨_, rfl, a⟩
theorem dpa2 {vs : List V} {d e : D} (h : DpAll K G vs [d, e]) : ∃ v w, vs = [v, w] ∧ Dp K G v d ∧ Dp K G w e := by
  cases h with
  | cons a b =>
    obtain ⟨w, rfl, h2⟩ := dpa1 b
    exact ⟨_, w, rfl, a, h2⟩
theorem o_len : ON K (fun xs H Q => ∃ p ys, xs = [.ref p] ∧ (SqL K H p ys ∨ SqT K H p ys) ∧ Q (.int ys.length) H) fLen := by
  refine ⟨fun G H xs ds z gh h1 hf Q q => ?_⟩
  unfold fLen at hf
  split at hf
  · split at hf
    · rename_i ds hd
      cases hf
      obtain ⟨v, rfl, h2⟩ := dpa1 h1
      obtain ⟨a, xs, rfl, hs, ha⟩ := seqD_dp gh h2 hd
      refine ⟨a, xs, rfl, hs, ?_⟩
      rw [dpa_len ha]
      exact q _ G H (gf_id gh) (.int _)
    · cases hf
  · cases hf
def fTuple : List D → Rs D
  | [.list ds] => .ok (.tuple ds)
  | [.tuple ds] => .ok (.tuple ds)
  | _ => .stk
theorem o_tuple : ON K (fun xs H Q => ∃ p ys, xs = [.ref p] ∧ ((SqL K H p ys ∧ ∀ l, H l = none → Q (.ref l) (upd H l (.tup ys))) ∨ (SqT K H p ys ∧ Q (.ref p) H))) fTuple := by
  refine ⟨fun G H xs ds z gh h1 hf Q q => ?_⟩
  unfold fTuple at hf
  split at hf
  · cases hf
    obtain ⟨v, rfl, h2⟩ := dpa1 h1
    cases h2 with
    | @lst a ys _ hs ha =>
      refine ⟨a, ys, rfl, .inl ⟨gh.seq hs, fun p hp => ?_⟩⟩
      have f := gf0_newG (o := .tup ys) gh hp
      exact q (.ref p) _ _ f (.tup (.inl (.inl upd_same)) (dpa_mono f.g0 _ _ ha))
  · cases hf
    obtain ⟨v, rfl, h2⟩ := dpa1 h1
    cases h2 with
    | @tup a ys _ hs ha => exact ⟨a, ys, rfl, .inr ⟨seqT_mono gh hs, q (.ref a) G H (gf_id gh) (.tup hs ha)⟩⟩
  · cases hf
def fList : List D → Rs (List D)
  | [d] => match seqD d with
    | some ds => .ok ds
    | none => .stk
  | _ => .stk
theorem o_list : OL K (fun xs H Q => ∃ p ys, xs = [.ref p] ∧ (SqL K H p ys ∨ SqT K H p ys) ∧ ∀ l, H l = none → Q (.ref l) (upd H l (.lst ys))) fList := by
  refine ⟨fun G H xs ds zs gh h1 hf Q q => ?_⟩
  unfold fList at hf
  split at hf
  · split at hf
    · rename_i ds hd
      cases hf
      obtain ⟨v, rfl, h2⟩ := dpa1 h1
      obtain ⟨a, ys, rfl, hs, ha⟩ := seqD_dp gh h2 hd
      exact ⟨a, ys, rfl, hs, fun p hp => q p ys G _ (gf0_new gh hp) hp (Same.free gh hp) upd_same ha⟩
    · cases hf
  · cases hf
def boolsOf : List D → Option (List Bool)
  | [] => some []
  | .bool i :: r => (boolsOf r).map (i :: ·)
  | _ :: _ => none
theorem boolsOf_is : ∀ {ds : List D} {ns : List Bool}, boolsOf ds = some ns → ds = ns.map PyData.bool
  | [], _, h => by cases h; rfl
  | d :: r, ns, h => by
    cases d with
    | bool i =>
      simp only [boolsOf, Option.map_eq_some_iff] at h
      obtain ⟨ms, h1, rfl⟩ := h
      rw [boolsOf_is h1]
      rfl
    | _ => cases h
@[simp] theorem boolsOf_map : ∀ ns : List Bool, boolsOf (ns.map PyData.bool) = some ns
  | [] => rfl
  | n :: ns => by simp [boolsOf, boolsOf_map ns]
def fAny : List D → Rs D
  | [.list ds] => match boolsOf ds with
    | some bs => .ok (.bool (bs.any id))
    | none => .stk
  | _ => .stk
def fAll : List D → Rs D
  | [.list ds] => match boolsOf ds with
    | some bs => .ok (.bool (bs.all id))
    | none => .stk
  | _ => .stk
theorem o_any : ON K (rAny K) fAny := by
  refine ⟨fun G H xs ds z gh h1 hf Q q => ?_⟩
  unfold fAny at hf
  split at hf
  · split at hf
    · rename_i ds ns hn
      cases hf
      obtain ⟨v, rfl, h2⟩ := dpa1 h1
      cases h2 with
      | @lst a ys _ hs ha =>
        have e := boolsOf_is hn
        subst e
        have e2 := dpa_bools ha
        subst e2
        exact ⟨a, ns, rfl, gh.seq hs, q _ G H (gf_id gh) (.bl _)⟩
    · cases hf
  · cases hf
theorem o_all : ON K (rAll K) fAll := by
  refine ⟨fun G H xs ds z gh h1 hf Q q => ?_⟩
  unfold fAll at hf
  split at hf
  · split at hf
    · rename_i ds ns hn
      cases hf
      obtain ⟨v, rfl, h2⟩ := dpa1 h1
      cases h2 with
      | @lst a ys _ hs ha =>
        have e := boolsOf_is hn
        subst e
        have e2 := dpa_bools ha
        subst e2
        exact ⟨a, ns, rfl, gh.seq hs, q _ G H (gf_id gh) (.bl _)⟩
    · cases hf
  · cases hf
def fAbs : List D → Rs D
  | [.int i] => .ok (.int (if i < 0 then -i else i))
  | _ => .stk
theorem o_abs : ON K (fun xs H Q => ∃ i, xs = [.int i] ∧ Q (.int (if i < 0 then -i else i)) H) fAbs := by
  refine ⟨fun G H xs ds z gh h1 hf Q q => ?_⟩
  unfold fAbs at hf
  split at hf
  · cases hf
    obtain ⟨v, rfl, h2⟩ := dpa1 h1
    cases h2
    exact ⟨_, rfl, q _ G H (gf_id gh) (.int _)⟩
  · cases hf
def fInt : List D → Rs D
  | [.int i] => .ok (.int i)
  | [.bool b] => .ok (.int (if b then 1 else 0))
  | _ => .stk
theorem o_int : ON K (fun xs H Q => (∃ i, xs = [.int i] ∧ Q (.int i) H) ∨ ∃ k, xs = [.bl k] ∧ Q (.int (if k then 1 else 0)) H) fInt := by
  refine ⟨fun G H xs ds z gh h1 hf Q q => ?_⟩
  unfold fInt at hf
  split at hf
  · cases hf
    obtain ⟨v, rfl, h2⟩ := dpa1 h1
    cases h2
    exact .inl ⟨_, rfl, q _ G H (gf_id gh) (.int _)⟩
  · cases hf
    obtain ⟨v, rfl, h2⟩ := dpa1 h1
    cases h2
    exact .inr ⟨_, rfl, q _ G H (gf_id gh) (.int _)⟩
  · cases hf
def fMax2 : List D → Rs D
  | [.int i, .int j] => .ok (.int (if j > i then j else i))
  | _ => .stk
def fMin2 : List D → Rs D
  | [.int i, .int j] => .ok (.int (if j < i then j else i))
  | _ => .stk
theorem o_max2 : ON K (fun xs H Q => ∃ i j, xs = [.int i, .int j] ∧ Q (.int (if j > i then j else i)) H) fMax2 := by
  refine ⟨fun G H xs ds z gh h1 hf Q q => ?_⟩
  unfold fMax2 at hf
  split at hf
  · cases hf
    obtain ⟨v, w, rfl, h2, h3⟩ := dpa2 h1
    cases h2
    cases h3
    exact ⟨_, _, rfl, q _ G H (gf_id gh) (.int _)⟩
  · cases hf
theorem o_min2 : ON K (fun xs H Q => ∃ i j, xs = [.int i, .int j] ∧ Q (.int (if j < i then j else i)) H) fMin2 := by
  refine ⟨fun G H xs ds z gh h1 hf Q q => ?_⟩
  unfold fMin2 at hf
  split at hf
  · cases hf
    obtain ⟨v, w, rfl, h2, h3⟩ := dpa2 h1
    cases h2
    cases h3
    exact ⟨_, _, rfl, q _ G H (gf_id gh) (.int _)⟩
  · cases hf
inductive Ty | int | bool | tup | lst | str
def Ty.nm : Ty → String
  | .int => "int"
  | .bool => "bool"
  | .tup => "tuple"
  | .lst => "list"
  | .str => "str"
def isi : Ty → D → Bool
  | .int, .int _ => true
  | .int, .bool _ => true
  | .bool, .bool _ => true
  | .tup, .tuple _ => true
  | .lst, .list _ => true
  | .str, .str _ => true
  | _, _ => false
theorem kit_non (t : Ty) : kitB "NoneType" t.nm = some (isi t .none) := by cases t <;> decide +kernel
theorem kit_bool (t : Ty) : kitB "bool" t.nm = some (isi t (.bool true)) := by cases t <;> decide +kernel
theorem kit_int (t : Ty) : kitB "int" t.nm = some (isi t (.int 0)) := by cases t <;> decide +kernel
theorem kit_str (t : Ty) : kitB "str" t.nm = some (isi t (.str Str.empty)) := by cases t <;> decide +kernel
theorem kit_list (t : Ty) : kitB "list" t.nm = some (isi t (.list [])) := by cases t <;> decide +kernel
theorem kit_tuple (t : Ty) : kitB "tuple" t.nm = some (isi t (.tuple [])) := by cases t <;> decide +kernel
theorem kit_dict (t : Ty) : kitB "dict" t.nm = some (isi t (.dict [])) := by cases t <;> decide +kernel
theorem kit_ins {C : Addr} (h : InsOk K C) (t : Ty) (kvs : List (D × D)) : PySem.W.kitOne K (.ref C) (.type t.nm) = some (isi t (.dict kvs)) := by
  have := h.kit
  cases t
  · exact this "int" (by simp)
  · exact this "bool" (by simp)
  · exact this "tuple" (by simp)
  · exact this "list" (by simp)
  · exact this "str" (by simp)
/-- the type of what stands in data -/
inductive TyM (K : PySem.W.Frag) (H : Hp) : V → Value → Prop
  | x {v : V} {t : Value} : TyX K H v t → TyM K H v t
  | dv {a : Addr} {xs : List XV} : H a = some (DVO a xs) → TyM K H (.ref a) (.type "dict")
/-- isinstance(x, c), one class -/
def rIsiM (K : PySem.W.Frag) : List V → Hp → VK → Prop := fun xs H Q => ∃ (x c : V) (t u : Value) (b : Bool), xs = [x, c] ∧ ClsV c u ∧ TyM K H x t ∧ PySem.W.kitOne K t u = some b ∧ Q (.bl b) H
theorem call_isiM {X : Cx} : CallR X (.builtin "isinstance") (rIsiM X.K) := by
  intro pins s σ H xs us Q I r h
  obtain ⟨x, c, t, u, b, rfl, k, ty, e, q⟩ := h
  cases ty with
  | x ty => exact call_isi pins s σ H _ us Q I r ⟨x, c, t, u, b, rfl, k, ty, e, q⟩
  | @dv a xs ha =>
    obtain ⟨u1, u2, rfl, r1, r2⟩ := vals2 r
    have e2 := k.eq r2
    subst e2
    cases (show u1 = Value.ref a from r1)
    obtain ⟨⟨_, _, o, es, ep, h3, h4, h5, h6, h7⟩, _, _⟩ := (show ObjOk X.prog X.w H s.heap a (DVO a xs) from I.hok a _ ha)
    exact PySem.W.kia_one PySem.W.kitx_dict I.kIn ⟨o, h3, h4.1⟩ e (fun z => nomatch z) fun tk => ⟨.bl b, H, I.tok tk, rfl, q⟩
theorem kit_dp {v : V} {d : D} (h : Dp K H v d) (t : Ty) : ∃ T, TyM K H v T ∧ PySem.W.kitOne K T (.type t.nm) = some (isi t d) := by
  cases h with
  | dv hd _ _ => exact ⟨_, .dv hd, kit_ty ((kit_dict t).trans (by cases t <;> rfl))⟩
  | non => exact ⟨_, .x (.base .non), kit_ty (kit_non t)⟩
  | bl b => exact ⟨_, .x (.base (.bl b)), kit_ty ((kit_bool t).trans (by cases t <;> rfl))⟩
  | int i => exact ⟨_, .x (.base (.int i)), kit_ty ((kit_int t).trans (by cases t <;> rfl))⟩
  | str x => exact ⟨_, .x (.base (.str x)), kit_ty ((kit_str t).trans (by cases t <;> rfl))⟩
  | @lst _ _ es hs _ =>
    have k := kit_ty (K := K) ((kit_list t).trans (show some (isi t (.list [])) = some (isi t (.list es)) by cases t <;> rfl))
    rcases hs with hs | ⟨o, its, n, hk, hc, _⟩
    · rcases hs with hs | ⟨o, hs⟩
      · exact ⟨_, .x (.base (.lst hs)), k⟩
      · exact ⟨_, .x (.base (.frz hs)), k⟩
    · exact ⟨_, .x (.kList hk hc), k⟩
  | @tup _ _ es hs _ =>
    have k := kit_ty (K := K) ((kit_tuple t).trans (show some (isi t (.tuple [])) = some (isi t (.tuple es)) by cases t <;> rfl))
    rcases hs with hs | ⟨o, its, n, hk, hc, _⟩
    · rcases hs with hs | ⟨o, hs⟩
      · exact ⟨_, .x (.base (.tup hs)), k⟩
      · exact ⟨_, .x (.fTuple hs), k⟩
    · exact ⟨_, .x (.kTuple hk hc), k⟩
  | ins hi hk _ => exact ⟨_, .x (.base (.ins hi hk.cl hk.ha hk.hn hk.htk hk.hm)), kit_ins hk t _⟩
  | dk hd _ => exact ⟨_, .x (.base (.dK hd)), kit_ty ((kit_dict t).trans (by cases t <;> rfl))⟩
def eIsi (t : Ty) (m : Em) : Em := fun en => (m en).bind fun p => .ok (.bool (isi t p.1), p.2)
theorem se_isi {te : TE} {m : Em} (t : Ty) (h1 : SE K mg E te m) : SE K mg E (tCB (rIsiM K) (tCons te (tCons (tC (.ty t.nm)) tNil))) (eIsi t m) := by
  refine ⟨fun F σ en G H Q g h => ?_⟩
  show te σ H _
  refine se_bind h1 g poE_err id h fun d en1 v G1 H1 p1 g1 s1 d1 => ?_
  have dH := dp_mono g1.gf.gh _ _ d1
  obtain ⟨T, k1, k2⟩ := kit_dp dH t
  exact ⟨v, .ty t.nm, _, _, _, rfl, .ty _, k1, k2, p1 _ G1 H1 g1 s1 (.bl _)⟩
mutual
theorem plain_of_noDict : ∀ d : D, d.hasDict = false → d.plain = true
  | .none, _ => rfl
  | .bool _, _ => rfl
  | .int _, _ => rfl
  | .str _, _ => rfl
  | .list ds, h => by
    rw [PyData.plain]
    exact plainAll_of_noDict ds (by simpa [PyData.hasDict] using h)
  | .tuple ds, h => by
    rw [PyData.plain]
    exact plainAll_of_noDict ds (by simpa [PyData.hasDict] using h)
  | .dict _, h => by simp [PyData.hasDict] at h
theorem plainAll_of_noDict : ∀ ds : List D, PyData.hasDictAll ds = false → PyData.plainAll ds = true
  | [], _ => rfl
  | d :: ds, h => by
    rw [PyData.hasDictAll, Bool.or_eq_false_iff] at h
    rw [PyData.plainAll, plain_of_noDict d h.1, plainAll_of_noDict ds h.2]
    rfl
end
def okRepr (d : D) : Bool := d.showable && !d.hasDict && decide (d.depth ≤ 60) && decide (d.shown.length ≤ 1000000)
def fRepr : List D → Rs D
  | [d] => if okRepr d = true then .ok (.str d.shown) else .stk
  | _ => .stk
theorem o_repr : ON K (rDN K fRepr) fRepr := oN_D fun ds z h => by
  unfold fRepr at h
  split at h
  · split at h
    · cases h; rfl
    · cases h
  · cases h
end
section
variable {X : Cx}
theorem call_reprG (hgd : X.A.guards = some []) (hu : X.A.units + 65 < cLine) : CallR X (.builtin "repr") (rDN X.K fRepr) := by
  intro pins s σ H xs us Q I r h
  obtain ⟨ds, z, w, hd, hf, hw, q⟩ := h
  unfold fRepr at hf
  split at hf
  · rename_i d
    split at hf
    · rename_i c
      cases hf
      cases hw
      unfold okRepr at c
      simp only [Bool.and_eq_true, decide_eq_true_eq, Bool.not_eq_true'] at c
      obtain ⟨⟨⟨c1, c2⟩, c3⟩, c4⟩ := c
      obtain ⟨v, rfl, h2⟩ := dpa1 hd
      obtain ⟨u, rfl, ru⟩ := vals1 r
      have hz : d.shown.length ≤ sizeLine := Nat.le_trans c4 (by decide)
      cases d with
      | none =>
        cases h2
        cases (show u = Value.none from ru)
        exact PySem.P.repr_of_none ⟨.str _, H, I.tok _, ⟨_, rfl⟩, q⟩
      | bool b =>
        cases h2
        cases (show u = Value.bool b from ru)
        exact PySem.P.repr_of_bool ⟨.str _, H, I.tok _, ⟨_, rfl⟩, q⟩
      | int i =>
        cases h2
        obtain ⟨t, rfl⟩ := (show ∃ t, u = Value.int i t from ru)
        exact PySem.P.repr_of_int (of_decide_eq_true c1) ⟨.str _, H, I.tok _, ⟨_, rfl⟩, q⟩
      | str x =>
        cases h2
        obtain ⟨t, rfl⟩ := (show ∃ t, u = Value.str x t from ru)
        exact PySem.P.repr_of_str ⟨.str _, H, I.tok _, ⟨_, rfl⟩, q⟩ hz
      | list es =>
        obtain ⟨as, rd⟩ := Dp.reads I _ v u h2 ru (plain_of_noDict _ c2)
        cases h2 with
        | @lst a _ _ _ _ =>
          cases (show u = Value.ref a from ru)
          exact repr_of_reads' rd c1 (PyData.noDict_hsm c2) hgd (by omega) (fun _ _ e => e) (fun h' u' tk hk => ⟨.str _, H, I.kept hk, ⟨_, rfl⟩, q⟩) hz
      | tuple es =>
        obtain ⟨as, rd⟩ := Dp.reads I _ v u h2 ru (plain_of_noDict _ c2)
        cases h2 with
        | @tup a _ _ _ _ =>
          cases (show u = Value.ref a from ru)
          exact repr_of_reads' rd c1 (PyData.noDict_hsm c2) hgd (by omega) (fun _ _ e => e) (fun h' u' tk hk => ⟨.str _, H, I.kept hk, ⟨_, rfl⟩, q⟩) hz
      | dict es => simp [PyData.hasDict] at c2
    · cases hf
  · cases hf
end
end Mir
end
section
set_option Elab.async false
set_option linter.all false
set_option maxRecDepth 100000
set_option maxHeartbeats 4000000
namespace Mir
open PySem PySem.Spec PyProof.Rows L2
open PySem.W (EachIs SortsAt AllAlike Sortable dataKind dataKind_inv dataKind_some alike alikeAll dataLt)
end Mir
end
section
set_option Elab.async false
set_option linter.all false
set_option maxRecDepth 100000
set_option maxHeartbeats 4000000
namespace Mir
open PySem PySem.Spec PyProof.Rows L2
section
variable {f1 f2 : Str}
def spIni (C : Addr) (f1 f2 : Str) : Sp := fun vs H Q _ => ∃ (a : Addr) (x y : V), vs = [.ref a, x, y] ∧ H a = some (exo a C none) ∧
  ∀ d, H d = none → d ≠ a → Q .non (upd (upd (upd H d (exd d [(f1, x)])) a (exo a C (some d))) d (exd d [(f2, y), (f1, x)]))
def tIni (K : PySem.W.Frag) (f1 f2 : Str) : TS := tSeq (tOst K f1 (tVar 0) (tVar 1)) (tOst K f2 (tVar 0) (tVar 2))
theorem pure_ini {K : PySem.W.Frag} {C : Addr} (T : OexC K C) (h1 : PySem.W.findIn K (.ref C) f1 = some none) (h2 : PySem.W.findIn K (.ref C) f2 = some none) {N : List Str} (hN : N.length = 3) (vs : List V) (H : Hp) (Q : VK) (E : XK) (h : spIni C f1 f2 vs H Q E) :
    tIni K f1 f2 { nx := fun _ H' => Q .non H', rt := Q } (L2.start N vs) H := by
  obtain ⟨a, x, y, rfl, ha, q⟩ := h
  have e : L2.start N [V.ref a, x, y] = [some (.ref a), some x, some y] := by
    unfold L2.start
    simp [hN]
  rw [e]
  refine ⟨x, rfl, .ref a, rfl, a, C, rfl, T, h1, .inl ⟨ha, fun d hd hne => ?_⟩⟩
  refine ⟨y, rfl, .ref a, rfl, a, C, rfl, T, h2, .inr ⟨d, [(f1, x)], upd_same, ?_, by simp, q d hd hne⟩⟩
  rw [upd_ne hne]
  exact upd_same
end
def oexB (K : PySem.W.Frag) (C : Addr) : Bool := (match K.lookup C with
  | some ⟨.type "type", _, .cls cd, sl⟩ => (match cd.mro, sl.toList with
    | .ref C' :: bm, [_, _, _, _, some (.builtin n), _] => decide (C' = C) && (decide (n = "ValueError.__new__") && (!cd.hasDel && (cd.hasDict && PySem.HandSPX.refsVE bm)))
    | _, _ => false)
  | _ => false) && (decide (PySem.W.findIn K (.ref C) "__setattr__" = some (some (.builtin "object.__setattr__"))) && (decide (PySem.W.subIn K (.ref C) (.type "BaseException") = some true) &&
    (decide (PySem.W.typeIn K (.ref C) = some (.type "type")) && PySem.W.keepIn K (.ref C))))
theorem oexB_ok {K : PySem.W.Frag} {C : Addr} (h : oexB K C = true) : OexC K C := by
  unfold oexB at h
  rw [Bool.and_eq_true, Bool.and_eq_true, Bool.and_eq_true, Bool.and_eq_true] at h
  obtain ⟨h0, h1, h2, h3, h4⟩ := h
  refine ⟨?_, of_decide_eq_true h1, of_decide_eq_true h2, of_decide_eq_true h3, h4⟩
  split at h0
  · rename_i dd cd sl ho
    split at h0
    · rename_i C' bm k0 k1 k2 k3 n k5 hm hs
      simp only [Bool.and_eq_true, decide_eq_true_eq, Bool.not_eq_true'] at h0
      obtain ⟨rfl, rfl, hdel, hdc, hv⟩ := h0
      obtain ⟨nm, bs, mro, ns, qn, hd, sn, sub, ab, col, del⟩ := cd
      dsimp only at hm hdel hdc
      subst hm hdel hdc
      have hsl : sl = #[k0, k1, k2, k3, some (.builtin "ValueError.__new__"), k5] := by
        obtain ⟨l⟩ := sl
        simp only at hs
        rw [hs]
      subst hsl
      exact ⟨nm, qn, ns, bs, bm, sn, sub, ab, col, dd, k0, k1, k2, k3, k5, ho, hv⟩
    · cases h0
  · cases h0
section
variable {K : PySem.W.Frag} {mg : Str → Option Value} {E : XK} {F : Fm} {σ : L2.St} {G G' H H' : Hp} {en : En}
def mRaise (c f1 f2 : Str) (a : Am) : Sm := fun en => (a en).bind fun p => match p.1 with
  | [d1, d2] => .err c [(f2, d2), (f1, d1)]
  | _ => .stk
theorem ss_raise {c f1 f2 : Str} {C : Addr} {ta : TA} {a : Am} (hC : mg c = some (.ref C)) (h1 : SA K mg (fun _ => E) ta a) :
    SS K mg E (fun _ σ H => tMkO C (spIni C f1 f2) [] ta σ H fun cls d H' => E cls d H') (mRaise c f1 f2 a) := by
  refine ⟨fun F σ en G H D g h => ?_⟩
  show ta σ H _
  refine sa_bind h1 g poS_err id h fun ds en1 vs G1 H1 p1 g1 s1 d1 => ?_
  split at p1
  · rename_i d1' d2' e
    have e' : ds = [d1', d2'] := e
    subst e'
    obtain ⟨x, y, rfl, dx, dy⟩ := dpa2 d1
    refine ⟨by simp, fun ea hea => ⟨ea, x, y, rfl, upd_same, fun d hd hne => ?_⟩⟩
    have hd1 : H1 d = none := by rw [upd_ne hne] at hd; exact hd
    refine ⟨rfl, d, [(f2, y), (f1, x)], ?_, upd_same, hd1, ?_⟩
    · rw [upd_ne (Ne.symm hne), upd_same]
    · have eH : upd (del (upd (upd (upd (upd H1 ea (exo ea C none)) d (exd d [(f1, x)])) ea (exo ea C (some d))) d (exd d [(f2, y), (f1, x)])) ea) d (.xd [(f2, y), (f1, x)]) = upd H1 d (.xd [(f2, y), (f1, x)]) := by
        funext b
        by_cases q : b = d
        · subst q; rw [upd_same, upd_same]
        · rw [upd_ne q, upd_ne q]
          by_cases q2 : b = ea
          · subst q2; rw [del_same, hea]
          · rw [del_ne q2, upd_ne q, upd_ne q2, upd_ne q, upd_ne q2]
      rw [eH]
      have f := gf0_new (o := .xd [(f2, y), (f1, x)]) g1.gf.gh hd1
      refine p1 _ _ _ ⟨C, d, _, G1, rfl, hC, rfl, g1.gf.comp f rfl rfl (fun _ z => z.elim), h0_new g1 hd1, Same.free g1.gf.gh hd1, upd_same, ?_⟩
      exact .cons ⟨rfl, dy⟩ (.cons ⟨rfl, dx⟩ .nil)
  · exact p1.elim
structure SX (K : PySem.W.Frag) (i : Nat) (a C dd : Addr) (te : TE) (m : List (Str × D) → Rs D) : Prop where
  run : ∀ σ G H xs fs z Q, Same G H → σ[i]? = some (some (.ref a)) → H dd = some (.xd xs) → FsOk K G xs fs → m fs = .ok z → (∀ v G' H', Gf (F0 G H) G' H' → Dp K G' v z → Q v H') → te σ H Q
structure SXs (K : PySem.W.Frag) (i : Nat) (a C dd : Addr) (ta : TA) (m : List (Str × D) → Rs (List D)) : Prop where
  run : ∀ σ G H xs fs zs Q, Same G H → σ[i]? = some (some (.ref a)) → H dd = some (.xd xs) → FsOk K G xs fs → m fs = .ok zs → (∀ vs G' H', Gf (F0 G H) G' H' → DpAll K G' vs zs → Q vs H') → ta σ H Q
def xF (f : Str) (fs : List (Str × D)) : Rs D := match fs.lookup f with
  | some d => .ok d
  | none => .stk
theorem fs_lookup {f : Str} : ∀ {xs : List (Str × V)} {fs : List (Str × D)} {d : D}, FsOk K G xs fs → fs.lookup f = some d → ∃ v, xs.lookup f = some v ∧ Dp K G v d
  | _, _, d, .nil, h => by cases h
  | (k, v) :: xs, (k', d') :: fs, d, .cons ⟨e1, e2⟩ t, h => by
    have e1' : k = k' := e1
    subst e1'
    rw [List.lookup_cons] at h ⊢
    by_cases q : (f == k) = true
    · rw [q] at h ⊢
      cases h
      exact ⟨v, rfl, e2⟩
    · rw [Bool.not_eq_true] at q
      rw [q] at h ⊢
      exact fs_lookup t h
theorem fsOk_mono (s : Same G G') : ∀ {xs : List (Str × V)} {fs : List (Str × D)}, FsOk K G xs fs → FsOk K G' xs fs
  | _, _, .nil => .nil
  | _, _, .cons ⟨a, b⟩ t => .cons ⟨a, dp_mono s _ _ b⟩ (fsOk_mono s t)
theorem sx_f {i : Nat} {a C dd : Addr} {f : Str} : SX K i a C dd (tXf a (.ref C) (some dd) C f (tVar i)) (xF f) := by
  refine ⟨fun σ G H xs fs z Q gh hi hd ok e q => ?_⟩
  unfold xF at e
  split at e
  · rename_i d hl
    cases e
    obtain ⟨v, h1, h2⟩ := fs_lookup ok hl
    exact ⟨.ref a, hi, rfl, rfl, dd, xs, v, rfl, hd, h1, q v G H (gf_id gh) h2⟩
  · cases e
theorem sxs_nil {i : Nat} {a C dd : Addr} : SXs K i a C dd tNil (fun _ => .ok []) := ⟨fun σ G H xs fs z Q gh hi hd ok e q => by cases e; exact q [] G H (gf_id gh) .nil⟩
def xCons (m : List (Str × D) → Rs D) (r : List (Str × D) → Rs (List D)) (fs : List (Str × D)) : Rs (List D) := (m fs).bind fun d => (r fs).bind fun ds => .ok (d :: ds)
theorem gf0_trans {G1 H1 G2 H2 : Hp} (f : Gf (F0 G H) G1 H1) (f2 : Gf (F0 G1 H1) G2 H2) : Gf (F0 G H) G2 H2 := f.comp f2 rfl rfl fun _ z => z.elim
theorem sxs_cons {i : Nat} {a C dd : Addr} {te : TE} {ta : TA} {m : List (Str × D) → Rs D} {r : List (Str × D) → Rs (List D)} (h1 : SX K i a C dd te m) (h2 : SXs K i a C dd ta r) : SXs K i a C dd (tCons te ta) (xCons m r) := by
  refine ⟨fun σ G H xs fs z Q gh hi hd ok e q => ?_⟩
  obtain ⟨d, e1, e2⟩ := bind_is e
  obtain ⟨ds, e3, e4⟩ := bind_is e2
  cases e4
  refine h1.run σ G H xs fs d _ gh hi hd ok e1 fun v G1 H1 f1 d1 => ?_
  refine h2.run σ G1 H1 xs fs ds _ f1.gh hi (f1.pres dd _ hd id) (fsOk_mono f1.g0 ok) e3 fun vs G2 H2 f2 d2 => ?_
  exact q (v :: vs) G2 H2 (gf0_trans f1 f2) (.cons (dp_mono f2.g0 _ _ d1) d2)
def xTup (r : List (Str × D) → Rs (List D)) (fs : List (Str × D)) : Rs D := (r fs).bind fun ds => if ds.length ≤ big then .ok (.tuple ds) else .stk
theorem sx_tup {i : Nat} {a C dd : Addr} {ta : TA} {r : List (Str × D) → Rs (List D)} (h : SXs K i a C dd ta r) : SX K i a C dd (tTup ta) (xTup r) := by
  refine ⟨fun σ G H xs fs z Q gh hi hd ok e q => ?_⟩
  obtain ⟨ds, e1, e2⟩ := bind_is e
  split at e2
  · rename_i hz
    cases e2
    refine h.run σ G H xs fs ds _ gh hi hd ok e1 fun vs G1 H1 f1 d1 => ⟨by rw [dpa_len d1]; exact big_line hz, fun p hp => ?_⟩
    have f := gf0_newG (o := .tup vs) f1.gh hp
    exact q (.ref p) _ _ (gf0_trans f1 f) (.tup (.inl (.inl upd_same)) (dpa_mono f.g0 _ _ d1))
  · cases e2
/-- an expression whose errors are caught at slot i -/
def eAt (i : Nat) (m : Em) : Em := fun en => if i < en.length then m en else .stk
theorem gd_un (f : Gf F G H) : Gd K F G H σ (σ.map fun _ => SV.un) := by
  refine ⟨f, by rw [List.length_map], ⟨fun _ => 0, fun i sv e => ?_⟩, fun i0 c t e => ?_⟩
  · rw [List.getElem?_map] at e
    cases q : σ[i]? with
    | none => rw [q] at e; cases e
    | some x => rw [q] at e; cases e; trivial
  · rw [List.getElem?_map] at e
    cases q : σ[i0]? with
    | none => rw [q] at e; cases e
    | some x => rw [q] at e; cases e
theorem len_un {A : Type} (xs : List A) (ys : List (Option V)) (h : xs.length = ys.length) : (xs.map fun _ => SV.un) = ys.map fun _ => SV.un := by
  rw [List.map_const', List.map_const', h]
end
end Mir
end
section
set_option Elab.async false
set_option linter.all false
set_option maxRecDepth 100000
set_option maxHeartbeats 4000000
namespace Mir
open PySem PySem.Spec PyProof.Rows L2
@[simp] theorem shaped_int (i : Int) : SeqAt.shaped (.int i) = true := by
  show (PyData.canLay0 (.int i) && decide (PyData.depth (.int i) ≤ 64)) = true
  simp [PyData.canLay0, PyData.depth]
@[simp] theorem eqv_int (i j : Int) : PyData.eqv (.int i) (.int j) = decide (i = j) := by
  simp only [PyData.eqv]
  by_cases h : i = j
  · simp [h]
  · simp [h]
@[simp] theorem okEq_int (i j : Int) : okEq (.int i) (.int j) = true := by simp [okEq]
@[simp] theorem fEq_int (i j : Int) : fEq (.int i) (.int j) = .ok (.bool (decide (i = j))) := by simp [fEq, yn]
@[simp] theorem fNe_int (i j : Int) : fNe (.int i) (.int j) = .ok (.bool (!decide (i = j))) := by simp [fNe, yn]
@[simp] theorem okCmp_int (i j : Int) : okCmp (.int i) (.int j) = true := by simp [okCmp, PySem.W.alike, notNone, PyData.depth, PyData.plain]
@[simp] theorem lt_int_D (i j : Int) : PySem.W.dataLt (.int i) (.int j) = decide (i < j) := by rw [PySem.W.dataLt_int]
@[simp] theorem fLt_int (i j : Int) : fLt (.int i) (.int j) = .ok (.bool (decide (i < j))) := by simp [fLt, yn]
@[simp] theorem fGt_int (i j : Int) : fGt (.int i) (.int j) = .ok (.bool (decide (j < i))) := by simp [fGt, yn]
theorem not_lt_D (i j : Int) : (!decide (j < i)) = decide (i ≤ j) := by
  by_cases h : j < i
  · simp [h, Int.not_le.mpr h]
  · simp [h, Int.not_lt.mp h]
@[simp] theorem fLe_int (i j : Int) : fLe (.int i) (.int j) = .ok (.bool (decide (i ≤ j))) := by unfold fLe; rw [okCmp_int, lt_int_D, not_lt_D]; rfl
@[simp] theorem fGe_int (i j : Int) : fGe (.int i) (.int j) = .ok (.bool (decide (j ≤ i))) := by unfold fGe; rw [okCmp_int, lt_int_D, not_lt_D]; rfl
@[simp] theorem fAdd_int (i j : Int) : fAdd (.int i) (.int j) = .ok (.int (i + j)) := rfl
@[simp] theorem fSub_int (i j : Int) : fSub (.int i) (.int j) = .ok (.int (i - j)) := rfl
def permL {A : Type} (perm : List Nat) (l : List A) : List A := perm.filterMap fun i => l[i]?
theorem vals_get : ∀ {vs : List V} {us : List Value} (i : Nat), Vals vs us → (vs[i]? = none ∧ us[i]? = none) ∨ ∃ v u, vs[i]? = some v ∧ us[i]? = some u ∧ RelV v u
  | _, _, _, .nil => .inl ⟨by simp, by simp⟩
  | _, _, 0, .cons r t => .inr ⟨_, _, rfl, rfl, r⟩
  | _, _, i + 1, .cons r t => by simpa using vals_get i t
theorem vals_perm {vs : List V} {us : List Value} (r : Vals vs us) : ∀ perm : List Nat, Vals (permL perm vs) (permL perm us)
  | [] => .nil
  | i :: l => by
    have ih := vals_perm r l
    rcases vals_get i r with ⟨h1, h2⟩ | ⟨v, u, h1, h2, h3⟩
    · unfold permL at ih ⊢
      rw [List.filterMap_cons, List.filterMap_cons, h1, h2]
      exact ih
    · unfold permL at ih ⊢
      rw [List.filterMap_cons, List.filterMap_cons, h1, h2]
      exact .cons h3 ih
theorem dpa_perm {K : PySem.W.Frag} {G : Hp} {vs : List V} {ds : List D} (r : DpAll K G vs ds) : ∀ perm : List Nat, DpAll K G (permL perm vs) (permL perm ds)
  | [] => .nil
  | i :: l => by
    have ih := dpa_perm r l
    unfold permL at ih ⊢
    rw [List.filterMap_cons, List.filterMap_cons]
    cases q : ds[i]? with
    | none =>
      have : vs[i]? = none := by
        rw [List.getElem?_eq_none_iff] at q ⊢
        rw [dpa_len r]
        exact q
      rw [this]
      exact ih
    | some d =>
      obtain ⟨v, h1, h2⟩ := dpa_get r q
      rw [h1]
      exact .cons h2 ih
structure KwB (K : PySem.W.Frag) (fd : FuncData) (ps ks : List Str) (n : Nat) (perm : List Nat) : Prop where
  to : ∀ (s : Shared) (us ws : List Value), K.In s.heap → us.length = n → ws.length = ks.length → BindsTo s fd ⟨us, ks.zip ws⟩ (ps.zip (permL perm (us ++ ws)))
section
variable {K : PySem.W.Frag} {x qual : Str} {params : Arguments} {body : List Stmt} {scope : Scope} {kws : List (Str × V)} {f : Addr} {fd : FuncData} {ps ks : List Str}
theorem kwB_of (F : FunD K x qual params body scope [] kws f fd) (n : Nat) (perm : List Nat)
    (h : ∀ (kV doc pm : Value) (an : Option Addr) (cdv ct : Value) (us ws : List Value), us.length = n → ws.length = ks.length → bindArgs (PySem.W.fnOf x qual params body scope .none kV doc pm an cdv ct) ⟨us, ks.zip ws⟩ = pure (ps.zip (permL perm (us ++ ws)))) : KwB K fd ps ks n perm := by
  obtain ⟨oc, od, dV, kV, doc, pm, an, cdv, ct, osl, rfl, lk, hcd, hD, hK⟩ := F.ex
  rcases hD with ⟨_, rfl⟩ | ⟨e, _⟩
  · exact ⟨fun s us ws _ l1 l2 => .of_eq (h kV doc pm an cdv ct us ws l1 l2)⟩
  · exact absurd rfl e
end
def tCallGK (sp : Sp) (n m : Nat) (perm : List Nat) (E : L2.St → XK) (t tk : TA) : TE := fun σ H Q => t σ H fun vs H1 => tk σ H1 fun zs H2 => vs.length = n ∧ zs.length = m ∧ sp (permL perm (vs ++ zs)) H2 Q (E σ)
section
variable {X : Cx} {C : CXT} {k n : Nat} {f : Addr} {fd : FuncData} {ps ks : List Str} {perm : List Nat} {sp : Sp} {E : L2.St → XK} {x : Str} {p pos : Pos} {e : Expr} {es : List Expr} {kws : List Keyword} {t tk : TA}
theorem go_fnK {pins : List (Addr × Obj)} {σ : L2.St} {H : Hp} {s : Shared} {Q : VK} {us ws : List Value} {vs zs : List V} (F : FnG X.prog X.w X.K X.mg X.base C k f fd ps sp) (hgd : X.A.guards = some []) (hr : Room k X.A) (hb : KwB X.K fd ps ks n perm) (hx : PassesAt C X σ (E σ))
    (I : Inv X pins σ H s) (r : Vals vs us) (rz : Vals zs ws) (l1 : vs.length = n) (l2 : zs.length = ks.length) (h : sp (permL perm (vs ++ zs)) H Q (E σ)) : wpAny (model X.prog X.w) X.A (call (.ref f) us (ks.zip ws)) (EP X pins σ Q) X.xe s := by
  have r2 : Vals (permL perm (vs ++ zs)) (permL perm (us ++ ws)) := vals_perm (r.append rz) perm
  have b := hb.to s us ws I.kIn (r.length.symm.trans l1) (rz.length.symm.trans l2)
  refine wpAny_call (codeAny_mono (F.go X.A X.stack s H ⟨us, ks.zip ws⟩ (permL perm (us ++ ws)) (permL perm (vs ++ zs)) Q (E σ) hgd hr I.env0 b r2 h) ?_)
  intro rs s' hq
  cases rs with
  | error ev => exact hx pins H s ev s' I hq
  | ok fl =>
    cases fl with
    | ret u => exact I.after hq
    | next => exact (show False from hq).elim
    | brk => exact (show False from hq).elim
    | cont => exact (show False from hq).elim
/-- f(k = v, ..) -/
theorem pe_callG0 (F : FnG X.prog X.w X.K X.mg X.base C k f fd ps sp) (hgd : X.A.guards = some []) (hr : Room k X.A) (hg : Gl X x) (hm : X.mg x = some (.ref f)) (hk : PySem.W.keepIn X.K (.ref f) = true) (hb : KwB X.K fd ps ks 0 perm) (hx : ∀ σ, PassesAt C X σ (E σ))
    (hkw : PK X kws tk) (hall : (backToKw pos (keywordEach kws X.env)).all (·.1.isSome) = true := by rfl) (hks : (backToKw pos (keywordEach kws X.env)).filterMap (·.1) = ks := by rfl) (hdb : (x == ("__debug__" : Str)) = false := by decide)
    (hpl : ((backTo pos (starEach [] X.env)).any (·.1) || (backToKw pos (keywordEach kws X.env)).any (·.1.isNone)) = false := by rfl) :
    PE X (.Call (.Name x p) [] kws pos) (tCallGK sp 0 ks.length perm E tNil tk) := by
  constructor
  intro pins s σ H Q I h
  refine wpAny_Call_Name_kw (ld_glob I hg hm ?_ hdb)
  refine PySem.W.callWith_KW0 (h₀ := X.base) I.ok.mod.kin hk hall ?_ hpl
  refine thn (hkw.run pos pins s σ H _ I h) ?_
  rintro ws s2 ⟨zs, H2, I2, rz, l1, l2, q2⟩
  refine ⟨I2.kIn, ?_⟩
  rw [hks]
  exact go_fnK (us := []) (vs := []) F hgd hr hb (hx σ) I2 .nil rz rfl l2 q2
end
section
variable {K : PySem.W.Frag} {mg : Str → Option Value} {E : L2.St → XK} {F : Fm} {σ : L2.St} {G G' H H' : Hp} {en : En}
def eCallK (m : List D → Rs D) (n k : Nat) (perm : List Nat) (a b : Am) : Em := fun en => (a en).bind fun p => (b p.2).bind fun q => if p.1.length = n ∧ q.1.length = k then (m (permL perm (p.1 ++ q.1))).bind fun d => .ok (d, q.2) else .stk
theorem se_callK {m : List D → Rs D} {n k : Nat} {perm : List Nat} {ta tb : TA} {a b : Am} (h1 : SA K mg E ta a) (h2 : SA K mg E tb b) : SE K mg E (tCallGK (spP K mg m) n k perm E ta tb) (eCallK m n k perm a b) := by
  refine ⟨fun F σ en G H Q g h => ?_⟩
  show ta σ H _
  refine sa_bind h1 g poE_err id h fun ds en1 vs G1 H1 p1 g1 s1 d1 => ?_
  refine sa_bind h2 g1 poE_err id p1 fun es en2 zs G2 H2 p2 g2 s2 d2 => ?_
  split at p2
  · rename_i hl
    refine ⟨(dpa_len d1).trans hl.1, (dpa_len d2).trans hl.2, G2, permL perm (ds ++ es), g2.gf.gh, dpa_perm (dpa_app (dpa_mono s2 _ _ d1) d2) perm, ?_⟩
    have p2' : PoE K mg (E σ) F σ G Q ((m (permL perm (ds ++ es))).bind fun d => .ok (d, en2)) := p2
    cases q : m (permL perm (ds ++ es)) with
    | stk => rw [q] at p2'; exact p2'.elim
    | err c fs =>
      rw [q] at p2'
      exact fun cls dx H' e => p2' cls dx H' (ErrAt.back (F' := F0 G2 H2) g2.gf rfl rfl (fun _ z => z.elim) e)
    | ok d =>
      rw [q] at p2'
      exact fun v G' H' f hd => p2' v G' H' (g2.grow f) ((s1.trans s2).trans f.g0) hd
  · exact p2.elim
end
end Mir
end
section
set_option Elab.async false
set_option linter.all false
set_option maxRecDepth 100000
set_option maxHeartbeats 4000000
namespace Mir
open PySem PySem.Spec PyProof.Rows L2
structure DrC where
  ad : Int
  a : Int
  b : Int
  m1 : Int
  c : Int
  d : Int
  m2 : Int
  e : Int
  line : Int
def DrC.ok (k : DrC) : Bool := decide (0 ≤ k.ad) && decide (0 < k.m1) && decide (0 < k.m2) && decide (0 < k.e) && decide (k.m1 < 1000000000000) && decide (k.m2 < 1000000000000) && decide (k.e < 1000) && decide (k.a.natAbs < 1000000000000) && decide (k.b.natAbs < 1000000000000) && decide (k.c.natAbs < 1000000) && decide (k.d.natAbs < 1000000)
theorem log2_small {i : Int} {n : Nat} (h : i.natAbs < 2 ^ n) (hn : 0 < n) : i.natAbs.log2 < n := by
  by_cases q : i.natAbs = 0
  · rw [q]; simpa using hn
  · exact (Nat.log2_lt q).mpr h
end Mir
end
section
set_option Elab.async false
set_option linter.all false
set_option maxRecDepth 100000
set_option maxHeartbeats 4000000
namespace Mir
open PySem PySem.Spec PyProof.Rows L2
end Mir
end
section
set_option Elab.async false
set_option linter.all false
set_option maxRecDepth 100000
set_option maxHeartbeats 4000000
namespace Mir
open PySem PySem.Spec PyProof.Rows L2
abbrev YesNo : Type := PySem.W.Frag → Bool
abbrev AlM : Type := Bool × List He.FnW
def obsM (fa : List He.Fa) (fn : List He.DefD) (ys : List YesNo) (K : PySem.W.Frag) : AlM := ((fa.all fun f => f.ok K) && ((fn.all fun d => d.ok K) && ys.all fun y => y K), fn.map fun d => He.fnW K d.at_)
def valM (fn : List He.DefD) : AlM := (true, fn.map He.DefD.val)
def SaysM (fa : List He.Fa) (fn : List He.DefD) (ys : List YesNo) (K : PySem.W.Frag) : Prop := obsM fa fn ys K = valM fn
section
variable {fa : List He.Fa} {fn : List He.DefD} {ys : List YesNo} {K : PySem.W.Frag}
theorem SaysM.yes (c : SaysM fa fn ys K) : (fa.all fun f => f.ok K) = true ∧ (fn.all fun d => d.ok K) = true ∧ (ys.all fun y => y K) = true := by
  have h : ((fa.all fun f => f.ok K) && ((fn.all fun d => d.ok K) && ys.all fun y => y K)) = true := congrArg (fun z : AlM => z.1) c
  rw [Bool.and_eq_true, Bool.and_eq_true] at h
  exact h
theorem SaysM.fact (c : SaysM fa fn ys K) {f : He.Fa} (h : f ∈ fa) : f.ok K = true := List.all_eq_true.mp c.yes.1 f h
theorem SaysM.own (c : SaysM fa fn ys K) {y : YesNo} (h : y ∈ ys) : y K = true := List.all_eq_true.mp c.yes.2.2 y h
theorem SaysM.def_ (c : SaysM fa fn ys K) {d : He.DefD} (h : d ∈ fn) : ∃ fd, FunD K d.name d.qual d.params d.body d.scope (d.dvs K) (d.kws K) (He.fAd K d.at_) fd := by
  obtain ⟨i, hi⟩ := List.mem_iff_getElem?.mp h
  have e : fn.map (fun d => He.fnW K d.at_) = fn.map He.DefD.val := congrArg (fun z : AlM => z.2) c
  have e2 : (fn.map fun d => He.fnW K d.at_)[i]? = (fn.map He.DefD.val)[i]? := by rw [e]
  rw [List.getElem?_map, List.getElem?_map, hi] at e2
  exact He.DefD.funD (Option.some.inj e2) (List.all_eq_true.mp c.yes.2.1 d h)
end
/-- what the walk knows of the module -/
structure Tx (fa : List He.Fa) (fn : List He.DefD) (ys : List YesNo) (K : PySem.W.Frag) (mg : Str → Option Value) : Prop where
  says : SaysM fa fn ys K
  glo : ∀ x, He.Fa.glo x ∈ fa → mg x = some (.ref (He.ga K x))
  free : ∀ x, He.Fa.free x ∈ fa → mg x = none
theorem tx_of {fa : List He.Fa} {fn : List He.DefD} {ys : List YesNo} {K : PySem.W.Frag} {mg : Str → Option Value} {h : Heap} (X : K.In h) (G : h.Ns mainGlobals mg) (c : SaysM fa fn ys K) : Tx fa fn ys K mg :=
  ⟨c, fun x hx => He.glo_ok X G (c.fact hx), fun x hx => He.free_ok X G (c.fact hx)⟩
section
variable {K : PySem.W.Frag} {mg : Str → Option Value} {E : L2.St → XK}
def tmYes : Tm := fun en => .ok (true, en)
theorem st_yes : ST K mg E tYes tmYes := ⟨fun F σ en G H Q g h => h G H g (Same.refl _)⟩
end
structure CalG [CxK] (P : Program) (w : World) (K : PySem.W.Frag) (mg : Str → Option Value) (base : Heap) (k : Nat) (d : He.DefD) (ps : List Str) (sp : Sp) : Prop where
  ex : ∃ fd, FunD K d.name d.qual d.params d.body d.scope [] [] (He.fAd K d.at_) fd ∧ FnG P w K mg base (CxK.cx P w) k (He.fAd K d.at_) fd ps sp ∧ Binds K fd ps []
  glo : mg d.name = some (.ref (He.fAd K d.at_))
section
variable {X : Cx} {j k n : Nat} {d : He.DefD} {ps ks : List Str} {perm : List Nat} {sp : Sp} {E : L2.St → XK} {p pos : Pos} {e : Expr} {es : List Expr} {kws : List Keyword} {t tk : TA}
theorem pe_calX [CxK] (c : CalG X.prog X.w X.K X.mg X.base k d ps sp) (hgd : X.A.guards = some []) (hr : Room j X.A) (hk : k ≤ j) (hx : ∀ σ, PassesAt (CxK.cx X.prog X.w) X σ (E σ)) (ha : PA X (e :: es) t) (hg : Gl X d.name := by rfl) (hdb : (d.name == ("__debug__" : Str)) = false := by decide)
    (he : starEach (e :: es) X.env = (false, eval e X.env) :: starEach es X.env := by rfl) (hpl : (backTo pos (starEach es X.env)).any (·.1) = false := by rfl) : PE X (.Call (.Name d.name p) (e :: es) [] pos) (tCallG sp E t) := by
  obtain ⟨fd, F, Fn, B⟩ := c.ex
  exact pe_callG Fn hgd (hr.mono hk) hg c.glo F.kp B hx ha hdb he hpl
theorem pe_cal0X [CxK] (c : CalG X.prog X.w X.K X.mg X.base k d ps sp) (hgd : X.A.guards = some []) (hr : Room j X.A) (hk : k ≤ j) (hx : ∀ σ, PassesAt (CxK.cx X.prog X.w) X σ (E σ))
    (hb : ∀ (kV doc pm : Value) (an : Option Addr) (cdv ct : Value) (us ws : List Value), us.length = 0 → ws.length = ks.length → bindArgs (PySem.W.fnOf d.name d.qual d.params d.body d.scope .none kV doc pm an cdv ct) ⟨us, ks.zip ws⟩ = pure (ps.zip (permL perm (us ++ ws))))
    (hkw : PK X kws tk) (hg : Gl X d.name := by rfl) (hall : (backToKw pos (keywordEach kws X.env)).all (·.1.isSome) = true := by rfl) (hks : (backToKw pos (keywordEach kws X.env)).filterMap (·.1) = ks := by rfl) (hdb : (d.name == ("__debug__" : Str)) = false := by decide)
    (hpl : ((backTo pos (starEach [] X.env)).any (·.1) || (backToKw pos (keywordEach kws X.env)).any (·.1.isNone)) = false := by rfl) :
    PE X (.Call (.Name d.name p) [] kws pos) (tCallGK sp 0 ks.length perm E tNil tk) := by
  obtain ⟨fd, F, Fn, B⟩ := c.ex
  exact pe_callG0 Fn hgd (hr.mono hk) hg c.glo F.kp (kwB_of F 0 perm hb) hx hkw hall hks hdb hpl
variable {P : Program} {w : World} {K : PySem.W.Frag} {mg : Str → Option Value} {base : Heap}
theorem pe_cal [CxK] (c : CalG P w K mg base k d ps sp) (hgd : X.A.guards = some []) (hr : Room j X.A) (hk : k ≤ j) (hx : ∀ σ, PassesAt (CxK.cx X.prog X.w) X σ (E σ)) (ha : PA X (e :: es) t) (z1 : X.prog = P := by rfl) (z2 : X.w = w := by rfl) (z3 : X.K = K := by rfl) (z4 : X.mg = mg := by rfl) (z5 : X.base = base := by rfl)
    (hg : Gl X d.name := by rfl) (hdb : (d.name == ("__debug__" : Str)) = false := by decide) (he : starEach (e :: es) X.env = (false, eval e X.env) :: starEach es X.env := by rfl) (hpl : (backTo pos (starEach es X.env)).any (·.1) = false := by rfl) : PE X (.Call (.Name d.name p) (e :: es) [] pos) (tCallG sp E t) := by
  subst z1 z2 z3 z4 z5
  exact pe_calX c hgd hr hk hx ha hg hdb he hpl
theorem pe_cal0 [CxK] (c : CalG P w K mg base k d ps sp) (hgd : X.A.guards = some []) (hr : Room j X.A) (hk : k ≤ j) (hx : ∀ σ, PassesAt (CxK.cx X.prog X.w) X σ (E σ))
    (hb : ∀ (kV doc pm : Value) (an : Option Addr) (cdv ct : Value) (us ws : List Value), us.length = 0 → ws.length = ks.length → bindArgs (PySem.W.fnOf d.name d.qual d.params d.body d.scope .none kV doc pm an cdv ct) ⟨us, ks.zip ws⟩ = pure (ps.zip (permL perm (us ++ ws))))
    (hkw : PK X kws tk) (z1 : X.prog = P := by rfl) (z2 : X.w = w := by rfl) (z3 : X.K = K := by rfl) (z4 : X.mg = mg := by rfl) (z5 : X.base = base := by rfl) (hg : Gl X d.name := by rfl) (hall : (backToKw pos (keywordEach kws X.env)).all (·.1.isSome) = true := by rfl) (hks : (backToKw pos (keywordEach kws X.env)).filterMap (·.1) = ks := by rfl) (hdb : (d.name == ("__debug__" : Str)) = false := by decide)
    (hpl : ((backTo pos (starEach [] X.env)).any (·.1) || (backToKw pos (keywordEach kws X.env)).any (·.1.isNone)) = false := by rfl) :
    PE X (.Call (.Name d.name p) [] kws pos) (tCallGK sp 0 ks.length perm E tNil tk) := by
  subst z1 z2 z3 z4 z5
  exact pe_cal0X c hgd hr hk hx hb hkw hg hall hks hdb hpl
/-- nothing passes -/
theorem passF [CxK] {X : Cx} (σ : L2.St) : PassesAt (CxK.cx X.prog X.w) X σ (fun _ _ _ => False) := fun _ _ _ _ _ _ z => (CxK.no _ _ _ _ _ _ _ z).elim
theorem room65 {k : Nat} {A : Around} (r : Room k A) : A.units + 65 < cLine := by have := r.un; omega
end
/-- a class's own statement -/
def clsBody (s : Stmt) (j : Nat) : Stmt := match s with
  | .ClassDef _ _ _ b _ _ _ _ _ _ _ => b.getD j (.Pass ⟨0, 0, 0, 0⟩)
  | s => s
/-- an own error's class: its facts, its __init__ -/
structure ErrC [CxK] (P : Program) (w : World) (K : PySem.W.Frag) (mg : Str → Option Value) (base : Heap) (c f1 f2 : Str) (d : He.DefD) : Prop where
  oex : OexC K (He.ga K c)
  glo : mg c = some (.ref (He.ga K c))
  init : PySem.W.findIn K (.ref (He.ga K c)) "__init__" = some (some (.ref (He.fAd K d.at_)))
  ty : PySem.W.typeIn K (.ref (He.fAd K d.at_)) = some (.type "function")
  run : ∃ fd, FnOk P w K mg base (CxK.cx P w) 1 (He.fAd K d.at_) fd [("self" : Str), f1, f2] (spIni (He.ga K c) f1 f2) ∧ Binds K fd [("self" : Str), f1, f2] []
def errY (c : Str) (d : Str × Option Str) (f1 f2 : Str) : List YesNo := [fun K => oexB K (He.ga K c), fun K => decide (PySem.W.findIn K (.ref (He.ga K c)) "__init__" = some (some (.ref (He.fAd K d)))), fun K => decide (PySem.W.typeIn K (.ref (He.fAd K d)) = some (.type "function")),
  fun K => decide (PySem.W.findIn K (.ref (He.ga K c)) f1 = some none), fun K => decide (PySem.W.findIn K (.ref (He.ga K c)) f2 = some none), fun K => xfB K (He.ga K c)]
theorem errC_of [CxK] {P : Program} {w : World} {fa : List He.Fa} {fn : List He.DefD} {ys : List YesNo} {K : PySem.W.Frag} {mg : Str → Option Value} {base : Heap} {c f1 f2 : Str} {d : He.DefD} (T : Tx fa fn ys K mg) (hd : d ∈ fn) (hdf : d.dfl = []) (hkw : d.kwd = []) (hc : He.Fa.glo c ∈ fa) (hy : ∀ y ∈ errY c d.at_ f1 f2, y ∈ ys)
    (S : FnScope [("self" : Str), f1, f2] [("self" : Str), f1, f2] d.scope) (hb : ∀ (kV doc pm : Value) (an : Option Addr) (cdv ct : Value) (us : List Value), us.length = 3 → bindArgs (PySem.W.fnOf d.name d.qual d.params d.body d.scope .none kV doc pm an cdv ct) ⟨us, []⟩ = pure ((["self", f1, f2] : List Str).zip us))
    (hp : ∀ X : Cx, X.N = [("self" : Str), f1, f2] → X.env.scope = d.scope → PSs X d.body (tIni X.K f1 f2)) : ErrC P w K mg base c f1 f2 d := by
  have y0 : oexB K (He.ga K c) = true := T.says.own (y := fun K => oexB K (He.ga K c)) (hy _ (by simp [errY]))
  have y1 : decide (PySem.W.findIn K (.ref (He.ga K c)) "__init__" = some (some (.ref (He.fAd K d.at_)))) = true := T.says.own (y := fun K => decide (PySem.W.findIn K (.ref (He.ga K c)) "__init__" = some (some (.ref (He.fAd K d.at_))))) (hy _ (by simp [errY]))
  have y2 : decide (PySem.W.typeIn K (.ref (He.fAd K d.at_)) = some (.type "function")) = true := T.says.own (y := fun K => decide (PySem.W.typeIn K (.ref (He.fAd K d.at_)) = some (.type "function"))) (hy _ (by simp [errY]))
  have y3 : decide (PySem.W.findIn K (.ref (He.ga K c)) f1 = some none) = true := T.says.own (y := fun K => decide (PySem.W.findIn K (.ref (He.ga K c)) f1 = some none)) (hy _ (by simp [errY]))
  have y4 : decide (PySem.W.findIn K (.ref (He.ga K c)) f2 = some none) = true := T.says.own (y := fun K => decide (PySem.W.findIn K (.ref (He.ga K c)) f2 = some none)) (hy _ (by simp [errY]))
  obtain ⟨fd, F⟩ := T.says.def_ hd
  have e1 : d.dvs K = [] := by unfold He.DefD.dvs; rw [hdf]; rfl
  have e2 : d.kws K = [] := by unfold He.DefD.kws; rw [hkw]; rfl
  rw [e1, e2] at F
  have o := oexB_ok y0
  refine ⟨o, T.glo c hc, of_decide_eq_true y1, of_decide_eq_true y2, fd, ?_, F.bindsN fun a b c d e f us hl => hb a b c d e f us hl⟩
  refine F.ok S (fun vs H Q E h => ?_) (fun cdv A outer s H vs Q E hr h => ⟨tIni K f1 f2, hp _ rfl rfl, pure_ini o (of_decide_eq_true y3) (of_decide_eq_true y4) rfl vs H Q E h⟩)
  obtain ⟨a, x, y, rfl, _⟩ := h
  rfl
end Mir
end
section
set_option Elab.async false
set_option linter.all false
set_option maxRecDepth 100000
set_option maxHeartbeats 4000000
namespace Mir
open PySem PySem.Spec PyProof.Rows L2
section
variable {K : PySem.W.Frag} {mg : Str → Option Value} {E : L2.St → XK} {F : Fm} {σ : L2.St} {G G' H H' : Hp} {en : En}
def zipD : List D → List D → List D
  | x :: xs, y :: ys => .tuple [x, y] :: zipD xs ys
  | _, _ => []
theorem zipD_get : ∀ {xs ys : List D} {i : Nat} {d : D}, (zipD xs ys)[i]? = some d → ∃ x y, xs[i]? = some x ∧ ys[i]? = some y ∧ d = .tuple [x, y]
  | [], _, i, d, h => by unfold zipD at h; cases h
  | _ :: _, [], i, d, h => by unfold zipD at h; cases h
  | x :: xs, y :: ys, 0, d, h => by
    unfold zipD at h
    cases h
    exact ⟨x, y, rfl, rfl, rfl⟩
  | x :: xs, y :: ys, i + 1, d, h => by
    unfold zipD at h
    obtain ⟨a, b, h1, h2, h3⟩ := zipD_get (xs := xs) (ys := ys) (i := i) (d := d) (by simpa using h)
    exact ⟨a, b, by simpa using h1, by simpa using h2, h3⟩
theorem zipD_len : ∀ (xs ys : List D), (zipD xs ys).length = min xs.length ys.length
  | [], _ => by unfold zipD; simp
  | _ :: _, [] => by unfold zipD; simp
  | x :: xs, y :: ys => by
    unfold zipD
    rw [List.length_cons, zipD_len xs ys, List.length_cons, List.length_cons]
    omega
theorem gf_tup2 {x y : V} {dx dy : D} {T : Addr} (gh : Same G H) (hT : H T = none) (h1 : Dp K G x dx) (h2 : Dp K G y dy) : ∃ G2, Gf (F0 G H) G2 (upd H T (.tup [x, y])) ∧ Dp K G2 (.ref T) (.tuple [dx, dy]) := by
  have f := gf0_newG (o := .tup [x, y]) gh hT
  exact ⟨_, f, .tup (.inl (.inl upd_same)) (.cons (dp_mono f.g0 _ _ h1) (.cons (dp_mono f.g0 _ _ h2) .nil))⟩
end
def spO (K : PySem.W.Frag) (mg : Str → Option Value) (m : List D → Rs (List D)) : Sp := fun vs H Q E => ∃ G ds, Same G H ∧ DpAll K G vs ds ∧
  match m ds with
  | .ok zs => ∀ p us G' H', Gf (F0 G H) G' H' → H p = none → G' p = none → H' p = some (.lst us) → DpAll K G' us zs → Q (.ref p) H'
  | _ => False
def lCall (m : List D → Rs (List D)) (a : Am) : Am := fun en => (a en).bind fun p => (m p.1).calm.bind fun zs => .ok (zs, p.2)
section
variable {K : PySem.W.Frag} {mg : Str → Option Value} {E : L2.St → XK}
theorem sl_callO {m : List D → Rs (List D)} {ta : TA} {a : Am} {E1 : L2.St → XK} (h1 : SA K mg E ta a) : SL K mg E (tCallG (spO K mg m) E1 ta) (lCall m a) := by
  refine ⟨fun F σ en G H Q g h => ?_⟩
  show ta σ H _
  refine sa_bind h1 g poL_err id h fun ds en1 vs G1 H1 p1 g1 s1 d1 => ?_
  obtain ⟨zs, ez, pz⟩ := calm_bind (P := PoL K mg (E σ) F σ G Q) id p1
  refine ⟨G1, ds, g1.gf.gh, d1, ?_⟩
  rw [show m ds = .ok zs from ez]
  intro p us G' H' f hp hg hh hd
  exact pz p us G' H' (g1.grow f) (s1.trans f.g0) hg hh hd (h0_new g1 hp) (free_new g1 hp f)
end
/-- a body that ends with its own list -/
structure SOw (K : PySem.W.Frag) (mg : Str → Option Value) (E : XK) (ts : TS) (m : Am) : Prop where
  run : ∀ F σ en G H D, Gd K F G H σ en → (match m en with
    | .ok (ds, en') => ∀ p vs σ' G' H', Gd K F G' H' σ' en' → Same G G' → G' p = none → H' p = some (.lst vs) → DpAll K G' vs ds → (F.Z p ∨ F.H0 p = none) → D.rt (.ref p) H'
    | _ => False) → ts D σ H
def fnO (n np : Nat) (m : Am) (ds : List D) : Rs (List D) := if ds.length = np then (m (enOf n ds)).bind fun p => .ok p.1 else .stk
section
variable {P : Program} {w : World} {K : PySem.W.Frag} {mg : Str → Option Value} {base : Heap} {x qual : Str} {params : Arguments} {body : List Stmt} {scope : Scope} {f : Addr} {fd : FuncData} {N ps : List Str} {k : Nat}
theorem fnO_ok [CxK] {m : Am} (F : FunD K x qual params body scope [] [] f fd) (S : FnScope N ps scope) (hn : ps.length ≤ N.length)
    (hb : ∀ (cdv : Value) (A : Around) (outer : List Env) (s : Shared) (H : Hp) (E : XK), (A.deeper (envOfC qual scope s.heap.objs.size f cdv)).guards = some [] → Room k (A.deeper (envOfC qual scope s.heap.objs.size f cdv)) →
      ∃ t, PSs (cxOf (CxK.cx P w) P w K mg base N qual scope f cdv A outer s H E) body t ∧ SOw K mg E t m) :
    FnG P w K mg base (CxK.cx P w) (k + 1) f fd ps (spO K mg (fnO N.length ps.length m)) := by
  have len : ∀ vs H Q E, spO K mg (fnO N.length ps.length m) vs H Q E → vs.length = ps.length := by
    rintro vs H Q E ⟨G, ds, gh, hd, h⟩
    by_cases q : ds.length = ps.length
    · rw [dpa_len hd, q]
    · have : fnO N.length ps.length m ds = .stk := if_neg q
      rw [this] at h
      exact h.elim
  refine fnG_of F S len fun cdv A outer s H vs Q E hgd hr hsp => ?_
  obtain ⟨t, h1, h2⟩ := hb cdv A outer s H E hgd hr
  refine ⟨t, h1, ?_⟩
  have hlen := len vs H Q E hsp
  obtain ⟨G, ds, gh, hd, h⟩ := hsp
  refine h2.run (F0 G H) _ (enOf N.length ds) G H _ (gd_start gh hd (by omega)) ?_
  have hq : ds.length = ps.length := by rw [← dpa_len hd]; exact hlen
  have e1 : fnO N.length ps.length m ds = (m (enOf N.length ds)).bind fun p => .ok p.1 := if_pos hq
  rw [e1] at h
  cases q : m (enOf N.length ds) with
  | stk => rw [q] at h; exact h
  | err c fs => rw [q] at h; exact h
  | ok z =>
    obtain ⟨zs, en'⟩ := z
    rw [q] at h
    intro p us σ' G' H' g' s' hg hh hd' hz
    exact h p us G' H' g'.gf (by
      rcases hz with z | z
      · exact z.elim
      · exact z) hg hh hd'
/-- a promise that asks for what cannot be -/
theorem fnG_never [CxK] {f : Addr} {fd : FuncData} {ps : List Str} {k : Nat} : FnG P w K mg base (CxK.cx P w) k f fd ps (spP K mg fun _ => .stk) :=
  ⟨fun _ _ _ _ ⟨_, _, _, _, h⟩ => h.elim, fun _ _ _ _ _ _ _ _ _ _ _ _ _ _ ⟨_, _, _, _, h⟩ => h.elim⟩
end
end Mir
end
section
set_option Elab.async false
set_option linter.all false
set_option maxRecDepth 100000
set_option maxHeartbeats 4000000
namespace Mir
open PySem PySem.Spec PyProof.Rows L2 HT
end Mir
end
section
set_option Elab.async false
set_option linter.all false
set_option maxRecDepth 100000
set_option maxHeartbeats 4000000
namespace Mir
open PySem PySem.Spec PyProof.Rows L2
section
variable {en : En}
@[simp] theorem mNext_ap : mNext en = .ok (.nx, en) := rfl
@[simp] theorem mSeq_ap {a b : Sm} : mSeq a b en = (a en).bind fun p => match p.1 with
  | .nx => b p.2
  | f => .ok (f, p.2) := rfl
@[simp] theorem mCont_ap : mCont en = .ok (.ct, en) := rfl
@[simp] theorem mBreak_ap : mBreak en = .ok (.bk, en) := rfl
@[simp] theorem mDrop_ap {m : Em} : mDrop m en = (m en).bind fun p => .ok (.nx, p.2) := rfl
@[simp] theorem mRet_ap {m : Em} : mRet m en = (m en).bind fun p => .ok (.rt p.1, p.2) := rfl
@[simp] theorem mRetN_ap : mRetN en = .ok (.rt .none, en) := rfl
@[simp] theorem mAsg_ap {gm : Gm} {m : Em} : mAsg gm m en = (m en).bind fun p => (gm p.1 p.2).calm.bind fun e => .ok (.nx, e) := rfl
@[simp] theorem mAsgO_ap {i : Nat} {m : Am} : mAsgO i m en = (m en).bind fun p => .ok (.nx, p.2.set i (.own (.lst p.1))) := rfl
@[simp] theorem mIf_ap {t : Tm} {a b : Sm} : mIf t a b en = (t en).bind fun p => if p.1 = true then a p.2 else b p.2 := rfl
@[simp] theorem gmName_ap {j : Nat} {d : D} : gmName j d en = .ok (en.set j (.dat d)) := rfl
@[simp] theorem eC_ap {d : D} : eC d en = .ok (d, en) := rfl
@[simp] theorem aNil_ap : aNil en = .ok ([], en) := rfl
@[simp] theorem aCons_ap {m : Em} {r : Am} : aCons m r en = (m en).bind fun p => (r p.2).bind fun q => .ok (p.1 :: q.1, q.2) := rfl
@[simp] theorem eTup_ap {a : Am} : eTup a en = (a en).bind fun p => if p.1.length ≤ big then .ok (.tuple p.1, p.2) else .stk := rfl
@[simp] theorem lLst_ap {a : Am} : lLst a en = (a en).bind fun p => if p.1.length ≤ big then .ok p else .stk := rfl
@[simp] theorem eL_ap {a : Am} : eL a en = (a en).bind fun p => .ok (.list p.1, p.2) := rfl
@[simp] theorem e1_ap {f : D → Rs D} {a : Em} : e1 f a en = (a en).bind fun p => (f p.1).calm.bind fun z => .ok (z, p.2) := rfl
@[simp] theorem e2_ap {f : D → D → Rs D} {a b : Em} : e2 f a b en = (a en).bind fun p => (b p.2).bind fun q => (f p.1 q.1).calm.bind fun z => .ok (z, q.2) := rfl
@[simp] theorem eN_ap {f : List D → Rs D} {a : Am} : eN f a en = (a en).bind fun p => (f p.1).calm.bind fun z => .ok (z, p.2) := rfl
@[simp] theorem lN_ap {f : List D → Rs (List D)} {a : Am} : lN f a en = (a en).bind fun p => (f p.1).calm.bind fun z => .ok (z, p.2) := rfl
@[simp] theorem tmB_ap {a : Em} : tmB a en = (a en).bind fun p => match p.1 with
  | .bool b => .ok (b, p.2)
  | _ => .stk := rfl
@[simp] theorem tmTru_ap {a : Em} : tmTru a en = (a en).bind fun p => (tru p.1).calm.bind fun b => .ok (b, p.2) := rfl
@[simp] theorem tru_bool {b : Bool} : tru (.bool b) = .ok b := rfl
@[simp] theorem tmYes_ap : tmYes en = .ok (true, en) := rfl
@[simp] theorem tmAnd_ap {a b : Tm} : tmAnd a b en = (a en).bind fun p => if p.1 = true then b p.2 else .ok (false, p.2) := rfl
@[simp] theorem tmOr_ap {a b : Tm} : tmOr a b en = (a en).bind fun p => if p.1 = true then .ok (true, p.2) else b p.2 := rfl
@[simp] theorem tmNot_ap {a : Tm} : tmNot a en = (a en).bind fun p => .ok (!p.1, p.2) := rfl
@[simp] theorem eAnd_ap {a b : Em} : eAnd a b en = (a en).bind fun p => match p.1 with
  | .bool true => b p.2
  | .bool false => .ok (.bool false, p.2)
  | _ => .stk := rfl
@[simp] theorem eOr_ap {a b : Em} : eOr a b en = (a en).bind fun p => match p.1 with
  | .bool true => .ok (.bool true, p.2)
  | .bool false => b p.2
  | _ => .stk := rfl
@[simp] theorem eNot_ap {a : Em} : eNot a en = (a en).bind fun p => match p.1 with
  | .bool b => .ok (.bool (!b), p.2)
  | _ => .stk := rfl
@[simp] theorem eIf_ap {t : Tm} {a b : Em} : eIf t a b en = (t en).bind fun p => if p.1 = true then a p.2 else b p.2 := rfl
@[simp] theorem eIsi_ap {t : Ty} {m : Em} : eIsi t m en = (m en).bind fun p => .ok (.bool (isi t p.1), p.2) := rfl
@[simp] theorem eCall_ap {m : List D → Rs D} {a : Am} : eCall m a en = (a en).bind fun p => (m p.1).bind fun d => .ok (d, p.2) := rfl
@[simp] theorem eAt_ap {i : Nat} {m : Em} : eAt i m en = if i < en.length then m en else .stk := rfl
@[simp] theorem eCallK_ap {m : List D → Rs D} {n k : Nat} {perm : List Nat} {a b : Am} : eCallK m n k perm a b en = (a en).bind fun p => (b p.2).bind fun q => if p.1.length = n ∧ q.1.length = k then (m (permL perm (p.1 ++ q.1))).bind fun d => .ok (d, q.2) else .stk := rfl
@[simp] theorem mRaise_ap {c f1 f2 : Str} {a : Am} : mRaise c f1 f2 a en = (a en).bind fun p => match p.1 with
  | [d1, d2] => .err c [(f2, d2), (f1, d1)]
  | _ => .stk := rfl
@[simp] theorem mFor_ap {im : Im} {gm : Gm} {b : Sm} : mFor im gm b en = (im en).bind fun p => forGo gm b p.1 p.2 := rfl
@[simp] theorem imSeq_ap {m : Em} : imSeq m en = (m en).bind fun p => (itemsOf p.1).bind fun ds => .ok (ds, p.2) := rfl
@[simp] theorem imRng_ap {f : List D → Rs (List D)} {a : Am} : imRng f a en = (a en).bind fun p => (f p.1).bind fun ds => .ok (ds, p.2) := rfl
@[simp] theorem itemsOf_list {ds : List D} : itemsOf (.list ds) = .ok ds := rfl
@[simp] theorem itemsOf_tuple {ds : List D} : itemsOf (.tuple ds) = .ok ds := rfl
@[simp] theorem fLen_list {ds : List D} : fLen [.list ds] = .ok (.int ds.length) := rfl
@[simp] theorem fLen_tuple {ds : List D} : fLen [.tuple ds] = .ok (.int ds.length) := rfl
@[simp] theorem fTuple_list {ds : List D} : fTuple [.list ds] = .ok (.tuple ds) := rfl
@[simp] theorem fTuple_tuple {ds : List D} : fTuple [.tuple ds] = .ok (.tuple ds) := rfl
@[simp] theorem fInt_int {i : Int} : fInt [.int i] = .ok (.int i) := rfl
@[simp] theorem fNeg_int {i : Int} : fNeg (.int i) = .ok (.int (-i)) := rfl
@[simp] theorem isi_int_int {i : Int} : isi .int (.int i) = true := rfl
@[simp] theorem isi_bool_int {i : Int} : isi .bool (.int i) = false := rfl
@[simp] theorem isi_tup_tup {ds : List D} : isi .tup (.tuple ds) = true := rfl
@[simp] theorem eVar_0 {d : D} {r : En} : eVar 0 (.dat d :: r) = .ok (d, .dat d :: r) := rfl
theorem eVar_ap {i : Nat} : eVar i en = match en[i]? with
  | some (.dat d) => .ok (d, en)
  | some (.own (.lst ds)) => .ok (.list ds, en.set i (.dat (.list ds)))
  | _ => .stk := rfl
@[simp] theorem intsD_zero {n : Nat} : intsD 0 n = (List.range n).map fun i : Nat => PyData.int (i : Nat) := by simp [intsD]
theorem rng1_nat {n : Nat} (h : n ≤ 100000) : rng1 [.int (n : Int)] = .ok ((List.range n).map fun i : Nat => PyData.int (i : Nat)) := by
  have e : rng1 [.int (n : Int)] = if (n : Int) ≤ 100000 ∧ -100000 ≤ (n : Int) then .ok (intsD 0 (n : Int).toNat) else .stk := rfl
  rw [e, if_pos (by omega)]
  simp
end
theorem set_self {en : En} {j : Nat} (h : j < en.length) : en.set j (en.getD j .un) = en := by
  apply List.ext_getElem?
  intro i
  by_cases q : j = i
  · subst q
    rw [List.getElem?_set_self h, List.getD_eq_getElem?_getD, List.getElem?_eq_getElem h]
    rfl
  · rw [List.getElem?_set_ne q]
end Mir
end
section
set_option Elab.async false
set_option linter.all false
set_option maxRecDepth 100000
set_option maxHeartbeats 4000000
namespace Mir
open PySem PySem.Spec PyProof.Rows L2
abbrev iD (n : Nat) : D := .int (n : Int)
def tupN (xs : List Nat) : D := .tuple (xs.map iD)
@[simp] theorem fDiv_2 (m : Nat) : fDiv (iD m) (.int 2) = .ok (iD (m / 2)) := by
  have h : okDiv (m : Int) 2 = true := by unfold okDiv; decide
  show (if okDiv (m : Int) 2 = true then Rs.ok (PyData.int ((m : Int) / 2)) else .stk) = _
  rw [if_pos h]
  rfl
@[simp] theorem fMod_2 (m : Nat) : fMod (iD m) (.int 2) = .ok (iD (m % 2)) := by
  show (if okMod (m : Int) 2 = true then Rs.ok (PyData.int ((m : Int) % 2)) else .stk) = _
  rw [if_pos (show okMod (m : Int) 2 = true from (by decide : decide ((0 : Int) < 2) = true))]
  rfl
@[simp] theorem fMul_2 (m : Nat) (h : m < 2 ^ 40) : fMul (iD m) (.int 2) = .ok (iD (m * 2)) := by
  have h1 : okMul (m : Int) 2 = true := by
    unfold okMul
    rw [Bool.and_eq_true]
    refine ⟨decide_eq_true ?_, by decide⟩
    exact Nat.lt_of_lt_of_le (log2_small (n := 40) (by simpa using h) (by decide)) (by decide)
  show (if okMul (m : Int) 2 = true then Rs.ok (PyData.int ((m : Int) * 2)) else .stk) = _
  rw [if_pos h1]
  rfl
theorem depthAll_iD : ∀ xs : List Nat, PyData.depthAll (xs.map iD) = 0
  | [] => by simp [PyData.depthAll]
  | x :: xs => by rw [List.map_cons, PyData.depthAll, depthAll_iD xs]; simp [PyData.depth]
theorem layAll_iD : ∀ xs : List Nat, PyData.canLayAll0 (xs.map iD) = true
  | [] => by simp [PyData.canLayAll0]
  | x :: xs => by rw [List.map_cons, PyData.canLayAll0, layAll_iD xs]; simp [PyData.canLay0]
theorem depth_tupN (xs : List Nat) : (tupN xs).depth = 1 := by unfold tupN; rw [PyData.depth, depthAll_iD]
theorem lay_tupN (xs : List Nat) : (tupN xs).canLay0 = true := by unfold tupN; rw [PyData.canLay0, layAll_iD]
theorem shaped_of {d : D} (h1 : d.canLay0 = true) (h2 : d.depth ≤ 64) : SeqAt.shaped d = true := by
  show (d.canLay0 && decide (d.depth ≤ 64)) = true
  rw [h1, decide_eq_true h2]
  rfl
@[simp] theorem shaped_tupN (xs : List Nat) : SeqAt.shaped (tupN xs) = true := shaped_of (lay_tupN xs) (by rw [depth_tupN]; decide)
theorem plainAll_iD : ∀ xs : List Nat, PyData.plainAll (xs.map iD) = true
  | [] => rfl
  | x :: xs => by rw [List.map_cons, PyData.plainAll, plainAll_iD xs]; rfl
@[simp] theorem plain_tupN (xs : List Nat) : (tupN xs).plain = true := by unfold tupN; rw [PyData.plain, plainAll_iD]
end Mir
end
section
set_option Elab.async false
set_option linter.all false
set_option maxRecDepth 100000
set_option maxHeartbeats 4000000
namespace Mir
open PySem PySem.Spec PyProof.Rows L2
theorem strOk_of (s : String) : PyData.strOk (Str.ofString s) = true := by
  rw [Str.ofString_eq_toList]
  unfold PyData.strOk
  rw [List.all_toArray, List.all_eq_true]
  intro x hx
  obtain ⟨c, _, rfl⟩ := List.mem_map.mp hx
  have h := c.valid
  have : c.toNat < 0x110000 := by
    rcases h with h | h
    · exact Nat.lt_trans h (by decide)
    · exact h.2
  exact decide_eq_true this
theorem strOk_app (a b : Str) (ha : PyData.strOk a = true) (hb : PyData.strOk b = true) : PyData.strOk (a ++ b) = true := by
  show PyData.strOk ⟨a.cps ++ b.cps⟩ = true
  unfold PyData.strOk at *
  rw [Array.all_append, ha, hb]
  rfl
theorem strOk_join (sep : Str) (hs : PyData.strOk sep = true) : ∀ ts : List Str, (∀ t ∈ ts, PyData.strOk t = true) → PyData.strOk (Str.join sep ts) = true
  | [], _ => (by decide +kernel : PyData.strOk Str.empty = true)
  | [x], h => h x (List.mem_cons_self ..)
  | x :: y :: r, h => strOk_app _ _ (strOk_app _ _ (h x (List.mem_cons_self ..)) hs) (strOk_join sep hs (y :: r) fun t ht => h t (List.mem_cons_of_mem _ ht))
theorem strOk_tuple (ts : List Str) (h : ∀ t ∈ ts, PyData.strOk t = true) : PyData.strOk (tupleText ts) = true :=
  strOk_app _ _ (strOk_app _ _ (strOk_of _) (strOk_join _ (strOk_of _) ts h)) (strOk_of _)
theorem tupleText_len (ts : List Str) : (tupleText ts).length ≤ piled ts + 3 := by
  unfold tupleText
  rw [strLen_append, strLen_append]
  have e1 : ((("(" : String) : Str)).length = 1 := rfl
  have e3 : (((if ts.length == 1 then ",)" else ")" : String) : Str)).length ≤ 2 := by split <;> decide
  rw [e1]
  cases ts with
  | nil => have : (Str.join ", " ([] : List Str)).length = 0 := rfl; omega
  | cons t r =>
    have := join_length_add (t :: r) (by simp)
    omega
theorem piled_le (ts : List Str) (k : Nat) (h : ∀ t ∈ ts, t.length ≤ k) : piled ts ≤ ts.length * (k + 2) := by
  induction ts with
  | nil => exact Nat.zero_le _
  | cons t ts ih =>
    rw [piled_cons, List.length_cons, Nat.succ_mul]
    have := h t (List.mem_cons_self ..)
    have := ih fun x hx => h x (List.mem_cons_of_mem _ hx)
    omega
theorem shownAll_eq : ∀ ds : List D, PyData.shownAll ds = ds.map PyData.shown
  | [] => by simp [PyData.shownAll]
  | d :: ds => by rw [PyData.shownAll, shownAll_eq ds]; rfl
def dg (h : Nat) : Str := Str.ofString (toString (h : Int))
theorem shown_iD (h : Nat) : (iD h).shown = Str.ofString (toString (h : Int)) := by simp only [PyData.shown]
theorem fRepr_ok {d : D} (h1 : d.showable = true) (h2 : d.canLay0 = true) (h3 : d.depth ≤ 60) (h4 : d.shown.length ≤ 1000000) : fRepr [d] = .ok (.str d.shown) := by
  show (if okRepr d = true then Rs.ok (PyData.str d.shown) else .stk) = _
  have : okRepr d = true := by
    unfold okRepr
    rw [h1, PyData.hasDict_of_canLay d h2, decide_eq_true h3, decide_eq_true h4]
    rfl
  rw [if_pos this]
theorem shaped_str {x : Str} (h : PyData.strOk x = true) : SeqAt.shaped (.str x) = true := shaped_of (by rw [PyData.canLay0, h]) (by simp [PyData.depth])
theorem fEq_str {x y : Str} (hx : PyData.strOk x = true) (hy : PyData.strOk y = true) : fEq (.str x) (.str y) = .ok (.bool (decide (x = y))) := by
  have hc : okEq (.str x) (.str y) = true := by unfold okEq; rw [shaped_str hx, shaped_str hy]; rfl
  have he : PyData.eqv (.str x) (.str y) = decide (x = y) := by
    simp only [PyData.eqv]
    by_cases q : x = y
    · simp [q]
    · simp [q]
  unfold fEq
  rw [hc, he]
  rfl
theorem fNe_str {x y : Str} (hx : PyData.strOk x = true) (hy : PyData.strOk y = true) : fNe (.str x) (.str y) = .ok (.bool (!decide (x = y))) := by
  have hc : okEq (.str x) (.str y) = true := by unfold okEq; rw [shaped_str hx, shaped_str hy]; rfl
  have he : PyData.eqv (.str x) (.str y) = decide (x = y) := by
    simp only [PyData.eqv]
    by_cases q : x = y
    · simp [q]
    · simp [q]
  unfold fNe
  rw [hc, he]
  rfl
theorem strOk_bool (b : Bool) : PyData.strOk (PyData.bool b).shown = true := by cases b <;> decide +kernel
end Mir
end
section
set_option Elab.async false
set_option linter.all false
set_option maxRecDepth 100000
set_option maxHeartbeats 4000000
namespace Mir
open PySem PySem.Spec PyProof.Rows L2
theorem mSeq_nx {a b : Sm} {en en1 : En} (h : a en = .ok (.nx, en1)) : mSeq a b en = b en1 := by rw [mSeq_ap, h, bind_ok]
theorem atI_N (xs : List Nat) (i : Nat) (h : i < xs.length) : atI (xs.map iD) (i : Int) = some (iD xs[i]) := by
  unfold atI ixN
  rw [if_pos (by omega), if_pos (by rw [List.length_map]; omega)]
  show (xs.map iD)[((i : Int)).toNat]? = _
  rw [Int.toNat_natCast, List.getElem?_map, List.getElem?_eq_getElem h]
  rfl
theorem fIx_tupN (xs : List Nat) (i : Nat) (h : i < xs.length) : fIx (tupN xs) (iD i) = .ok (iD xs[i]) := by
  show (match atI (xs.map iD) (i : Int) with
    | some z => Rs.ok z
    | none => .stk) = _
  rw [atI_N xs i h]
theorem fLen_tupN (xs : List Nat) : fLen [tupN xs] = .ok (iD xs.length) := by show Rs.ok (PyData.int (((xs.map iD).length : Nat) : Int)) = _; rw [List.length_map]
theorem fAdd_N (a b : Nat) : fAdd (iD a) (iD b) = .ok (iD (a + b)) := rfl
theorem fSub_N {a b : Nat} (h : b ≤ a) : fSub (iD a) (iD b) = .ok (iD (a - b)) := by
  show Rs.ok (PyData.int ((a : Int) - (b : Int))) = _
  have : (a : Int) - (b : Int) = ((a - b : Nat) : Int) := by omega
  rw [this]
theorem okMul_N {a b : Nat} (ha : a < 2 ^ 62) (hb : b < 2 ^ 62) : okMul (a : Int) (b : Int) = true := by
  unfold okMul
  rw [Bool.and_eq_true]
  exact ⟨decide_eq_true (Nat.lt_of_lt_of_le (log2_small (n := 62) (by show (a : Int).natAbs < _; omega) (by decide)) (by decide)), decide_eq_true (Nat.lt_of_lt_of_le (log2_small (n := 62) (by show (b : Int).natAbs < _; omega) (by decide)) (by decide))⟩
theorem fMul_N {a b : Nat} (ha : a < 2 ^ 62) (hb : b < 2 ^ 62) : fMul (iD a) (iD b) = .ok (iD (a * b)) := by
  show (if okMul (a : Int) (b : Int) = true then Rs.ok (PyData.int ((a : Int) * (b : Int))) else .stk) = _
  rw [if_pos (okMul_N ha hb)]
  have : (a : Int) * (b : Int) = ((a * b : Nat) : Int) := by omega
  rw [this]
theorem fMod_N {a b : Nat} (hb : 0 < b) : fMod (iD a) (iD b) = .ok (iD (a % b)) := by
  show (if okMod (a : Int) (b : Int) = true then Rs.ok (PyData.int ((a : Int) % (b : Int))) else .stk) = _
  rw [if_pos (show okMod (a : Int) (b : Int) = true from decide_eq_true (by omega))]
  rfl
theorem fDiv_N {a b : Nat} (hb : 0 < b) (hb2 : b < 2 ^ 62) : fDiv (iD a) (iD b) = .ok (iD (a / b)) := by
  have h : okDiv (a : Int) (b : Int) = true := by
    unfold okDiv
    rw [Bool.and_eq_true]
    exact ⟨decide_eq_true (by omega), decide_eq_true (Nat.lt_of_lt_of_le (log2_small (n := 62) (by show (b : Int).natAbs < _; omega) (by decide)) (by decide))⟩
  show (if okDiv (a : Int) (b : Int) = true then Rs.ok (PyData.int ((a : Int) / (b : Int))) else .stk) = _
  rw [if_pos h]
  rfl
theorem fEq_N (a b : Nat) : fEq (iD a) (iD b) = .ok (.bool (decide (a = b))) := by
  rw [fEq_int]
  congr 2
  exact decide_eq_decide.mpr (by omega)
theorem fNe_N (a b : Nat) : fNe (iD a) (iD b) = .ok (.bool (!decide (a = b))) := by
  rw [fNe_int]
  congr 2
  have : decide ((a : Int) = (b : Int)) = decide (a = b) := decide_eq_decide.mpr (by omega)
  first
    | rw [this]
    | (rw [← this]; simp)
theorem fLt_N (a b : Nat) : fLt (iD a) (iD b) = .ok (.bool (decide (a < b))) := by
  rw [fLt_int]
  congr 2
  exact decide_eq_decide.mpr (by omega)
theorem fGt_N (a b : Nat) : fGt (iD a) (iD b) = .ok (.bool (decide (b < a))) := by
  rw [fGt_int]
  congr 2
  exact decide_eq_decide.mpr (by omega)
theorem fGe_N (a b : Nat) : fGe (iD a) (iD b) = .ok (.bool (decide (b ≤ a))) := by
  rw [fGe_int]
  congr 2
  exact decide_eq_decide.mpr (by omega)
end Mir
end
section
set_option Elab.async false
set_option linter.all false
set_option maxRecDepth 100000
set_option maxHeartbeats 4000000
namespace Mir
open PySem PySem.Spec PyProof.Rows L2
theorem fAdd_list (a b : List D) (h : a.length + b.length ≤ 100000) : fAdd (.list a) (.list b) = .ok (.list (a ++ b)) := by
  show (if a.length + b.length ≤ big then Rs.ok (PyData.list (a ++ b)) else .stk) = _
  rw [if_pos (show a.length + b.length ≤ big from h)]
end Mir
end
section
set_option Elab.async false
set_option linter.all false
set_option maxRecDepth 100000
set_option maxHeartbeats 4000000
namespace Mir
open PySem PySem.Spec PyProof.Rows L2
end Mir
end
section
set_option Elab.async false
set_option linter.all false
set_option maxRecDepth 100000
set_option maxHeartbeats 4000000
namespace Mir
open PySem PySem.Spec PyProof.Rows L2
def SqB (k : Bool) (K : PySem.W.Frag) (H : Hp) (a : Addr) (xs : List V) : Prop := match k with
  | true => SqT K H a xs
  | false => SqL K H a xs
def ItB (k : Bool) (h : Heap) (it l : Addr) (i : Nat) : Prop := match k with
  | true => h.IsTupleIter it l i
  | false => h.IsListIter it l i
def SeB (k : Bool) (h : Heap) (l : Addr) (xs : Array Value) : Prop := match k with
  | true => h.IsTuple l xs
  | false => h.IsList l xs
def itObj (k : Bool) (l : Addr) : Obj := match k with
  | true => { cls := .type "tuple_iterator", data := .fields #[.ref l, .int 0 0] }
  | false => { cls := .type "list_iterator", data := .fields #[.ref l, .int 0 0] }
theorem inv_sq {X : Cx} {pins : List (Addr × Obj)} {σ : L2.St} {H : Hp} {s : Shared} {k : Bool} {a : Addr} {xs : List V} (I : Inv X pins σ H s) (h : SqB k X.K H a xs) : ∃ its : List Value, Vals xs its ∧ SeB k s.heap a its.toArray := by
  cases k with
  | true => obtain ⟨its, r, p, _⟩ := I.tuple h; exact ⟨its, r, p⟩
  | false => obtain ⟨its, r, p, _⟩ := I.list h; exact ⟨its, r, p.isList⟩
theorem inv_sq_inj {X : Cx} {pins : List (Addr × Obj)} {σ : L2.St} {H : Hp} {s : Shared} {k : Bool} {a : Addr} {xs ys : List V} (I : Inv X pins σ H s) (h : SqB k X.K H a xs) (h' : SqB k X.K H a ys) : xs = ys := by
  cases k with
  | true => exact I.tuple_inj h h'
  | false => exact I.list_inj h h'
theorem itB_at {k : Bool} {h h' : Heap} {it l : Addr} {i : Nat} (x : ItB k h it l i) (e : ∀ o, h.get? it = some o → h'.get? it = some o) : ItB k h' it l i := by
  cases k with
  | true => exact Heap.IsTupleIter.at x e
  | false => exact Heap.IsListIter.at x e
theorem itB_obj {k : Bool} {h : Heap} {it l : Addr} {i : Nat} (x : ItB k h it l i) : ∃ o, h.get? it = some o ∧ ∃ fs, o.data = .fields fs := by
  cases k with
  | true => obtain ⟨o, e, _, d⟩ := x; exact ⟨o, e, _, d⟩
  | false => obtain ⟨o, e, _, d⟩ := x; exact ⟨o, e, _, d⟩
theorem itB_new {k : Bool} {h : Heap} {it l : Addr} (e : h.get? it = some (itObj k l)) : ItB k h it l 0 := by
  cases k with
  | true => exact ⟨_, e, rfl, rfl⟩
  | false => exact ⟨_, e, rfl, rfl⟩
theorem begB (k : Bool) (l : Addr) (xs : Array Value) : Begins (.ref l) (itObj k l) fun h => SeB k h l xs := by
  cases k with
  | true => exact begins_tuple l xs
  | false => exact begins_list l xs
theorem nextB {prog : Program} {w : World} {A : Around} {E : Value → Shared → Prop} {s : Shared} {k : Bool} {it l : Addr} {i : Nat} {xs : Array Value} {x : Value} {Q : Value → Shared → Prop} (h1 : ItB k s.heap it l i) (h2 : SeB k s.heap l xs) (hx : xs[i]? = some x)
    (q : ∀ h', ItB k h' it l (i + 1) → Heap.SameBut it s.heap h' → Q x { s with heap := h' }) : wpAny (model prog w) A (Builtin.SmallTypes.nextOf (.ref it)) Q E s := by
  cases k with
  | true => exact wpAny_nextOf_tuple_item h1 h2 hx q
  | false => exact wpAny_nextOf_list_item h1 h2 hx q
theorem stopB {prog : Program} {w : World} {A : Around} {E : Value → Shared → Prop} {s : Shared} {k : Bool} {it l : Addr} {i : Nat} {xs : Array Value} {Q : Value → Shared → Prop} (hh : A.handled = none) (h1 : ItB k s.heap it l i) (h2 : SeB k s.heap l xs) (hx : xs[i]? = none)
    (q : ∀ h' e, Heap.ExtBut it s.heap h' → (∃ o, h'.get? e = some o ∧ o.cls = .type "StopIteration") → E (.ref e) { s with heap := h' }) : wpAny (model prog w) A (Builtin.SmallTypes.nextOf (.ref it)) Q E s := by
  cases k with
  | true => exact wpAny_nextOf_tuple_end hh h1 h2 hx q
  | false => exact wpAny_nextOf_list_end hh h1 h2 hx q
theorem seB_at {k : Bool} {h h' : Heap} {l : Addr} {xs : Array Value} (x : SeB k h l xs) (e : ∀ o, h.get? l = some o → h'.get? l = some o) : SeB k h' l xs := by
  cases k with
  | true => exact Heap.IsTuple.at x e
  | false => exact Heap.IsList.at x e
/-- from the place i on -/
theorem drawsB {prog : Program} {w : World} {A : Around} (k : Bool) (i : Nat) (hh : A.handled = none) (it l : Addr) (hne : l ≠ it) (xs : Array Value) : Draws prog w A it [it, l] (xs.size - i) (fun j v => xs[i + j]? = some v) (fun j h => ItB k h it l (i + j) ∧ SeB k h l xs) where
  live := fun _ _ st => let ⟨o, e, _⟩ := itB_obj st.1; ⟨o, e⟩
  frame := fun _ _ _ st hk => ⟨itB_at st.1 (hk it (by simp)), seB_at st.2 (hk l (by simp))⟩
  item := fun j s Q E hj st q => by
    have hx : xs[i + j]? = some (xs[i + j]'(by omega)) := Array.getElem?_eq_getElem (by omega)
    exact nextB st.1 st.2 hx fun h' n sb => q _ h' s.toks hx ⟨n, seB_at st.2 fun o e => sb.extBut _ _ hne e⟩ sb
  done := fun s Q E st q => stopB hh st.1 st.2 (Array.getElem?_eq_none (by omega)) q
theorem seB_lt {k : Bool} {h : Heap} {l : Addr} {xs : Array Value} (x : SeB k h l xs) : l < h.objs.size := by
  cases k with
  | true => obtain ⟨o, e, _⟩ := x; exact Heap.lt_size e
  | false => obtain ⟨o, e, _⟩ := x; exact Heap.lt_size e
def Itzb (k1 k2 : Bool) (K : PySem.W.Frag) (a b : Addr) : It where
  go := fun i H => ∃ (xs ys : List V) (x y : V), SqB k1 K H a xs ∧ SqB k2 K H b ys ∧ xs[i]? = some x ∧ ys[i]? = some y
  yld := fun i H v H' => ∃ T x y, v = .ref T ∧ H T = none ∧ H' = upd H T (.tup [x, y]) ∧ (∀ xs, SqB k1 K H a xs → xs[i]? = some x) ∧ ∀ ys, SqB k2 K H b ys → ys[i]? = some y
  stop := fun i H => ∃ xs ys : List V, SqB k1 K H a xs ∧ SqB k2 K H b ys ∧ (xs.length ≤ i ∨ ys.length ≤ i)
theorem sep_of {z TI TO i1 i2 a b : Addr} (D : ZipApart z TI TO i1 i2 a b) : ZipSep2 z TI TO i1 i2 [i1, a] [i2, b] where
  TIz := D.TIz
  TOz := D.TOz
  TITO := D.TITO
  TIi1 := D.TIi1
  mem1 := by simp
  zf1 := by simp [D.i1z.symm, D.l1z.symm]
  Tf1 := by simp [D.TOi1, D.l1TO.symm]
  TIi2 := D.TIi2
  mem2 := by simp
  zf2 := by simp [D.i2z.symm, D.l2z.symm]
  Tf2 := by simp [D.TOi2, D.l2TO.symm]
  sep1_2 := by simp [D.i12, D.l2i1.symm]
  sep2_1 := by simp [D.i12.symm, D.l1i2.symm]
theorem mem5 {c z TI TO i1 i2 : Addr} (h : c ∈ [z, TI, TO, i1, i2]) : c = z ∨ c = TI ∨ c = TO ∨ c = i1 ∨ c = i2 := by simpa using h
theorem no5 {c z TI TO i1 i2 : Addr} (h : c ∉ [z, TI, TO, i1, i2]) : c ≠ z ∧ c ≠ TI ∧ c ≠ TO ∧ c ≠ i1 ∧ c ≠ i2 := by simpa using h
theorem turn_zb {k1 k2 : Bool} {P : Program} {w : World} {K : PySem.W.Frag} {elts : List Expr} {kk : Nat} {tpos : Pos} {a b z TI TO i1 i2 : Addr} (D : ZipApart z TI TO i1 i2 a b) :
    Turn P w K (.Tuple elts kk tpos) (Itzb k1 k2 K a b) [z, TI, TO, i1, i2] z (fun i h => IsZip h z TI TO .none ∧ IsTupOf2 h TI (.ref i1) (.ref i2) ∧ (∃ x y, IsTupOf2 h TO x y) ∧ ItB k1 h i1 a i ∧ ItB k2 h i2 b i) where
  mem := List.mem_cons_self ..
  obj := fun i h st c hc => by
    obtain ⟨hz, hI, ⟨x, y, hO⟩, h1, h2⟩ := st
    obtain ⟨o1, e1, f1, d1⟩ := itB_obj h1
    obtain ⟨o2, e2, f2, d2⟩ := itB_obj h2
    rcases mem5 hc with rfl | rfl | rfl | rfl | rfl
    · exact ⟨_, hz, fun _ q => by cases q⟩
    · exact ⟨_, hI, fun _ q => by cases q⟩
    · exact ⟨_, hO, fun _ q => by cases q⟩
    · exact ⟨o1, e1, fun _ q => by rw [d1] at q; cases q⟩
    · exact ⟨o2, e2, fun _ q => by rw [d2] at q; cases q⟩
  keep := fun i h h' st k => by
    obtain ⟨hz, hI, ⟨x, y, hO⟩, h1, h2⟩ := st
    exact ⟨k _ (List.mem_cons_self ..) _ hz, k TI (by simp) _ hI, ⟨x, y, k TO (by simp) _ hO⟩, itB_at h1 (k i1 (by simp)), itB_at h2 (k i2 (by simp))⟩
  item := by
    rintro X rfl rfl rfl hc i pins s σ H E I hf ⟨hz, hI, ⟨x0, y0, hO⟩, h1, h2⟩ ⟨xs, ys, x, y, qx, qy, hx, hy⟩
    obtain ⟨us, rv, p⟩ := inv_sq I qx
    obtain ⟨ws, rv2, p2⟩ := inv_sq I qy
    obtain ⟨u, hu, ru⟩ := rv.get hx
    obtain ⟨v, hv, rw'⟩ := rv2.get hy
    have zlt : z < s.heap.objs.size := Heap.lt_size hz
    have l1 : i < us.toArray.size := by
      rw [List.size_toArray]; exact (List.getElem?_eq_some_iff.mp hu).1
    have l2 : i < ws.toArray.size := by
      rw [List.size_toArray]; exact (List.getElem?_eq_some_iff.mp hv).1
    refine wpAny_pyNext_zipD2_item (i := 0) (sep_of D) (drawsB (A := X.A.in1) k1 i (show X.A.in1.handled = none from I.ok.hd hc) i1 a D.l1i1 us.toArray) (drawsB (A := X.A.in1) k2 i (show X.A.in1.handled = none from I.ok.hd hc) i2 b D.l2i2 ws.toArray) hz hI hO ⟨h1, p⟩ ⟨h2, p2⟩ (by omega) (by omega) fun u' v' h' tk eu ev z' O' n1 n2 hT _ hk => ?_
    have eu : us[i]? = some u' := by simpa using eu
    have ev : ws[i]? = some v' := by simpa using ev
    obtain rfl : u = u' := Option.some.inj (hu.symm.trans eu)
    obtain rfl : v = v' := Option.some.inj (hv.symm.trans ev)
    refine ⟨_, rfl, wpAny_letOwnedTupleGo_zip (s := { s with heap := h', toks := tk }) z' fun g z'' sb => ?_⟩
    have tn : g.get? s.heap.objs.size = some { cls := .type "tuple", data := .seq #[u, v] } := (sb.2 _ (Nat.ne_of_gt zlt)).trans hT
    have nw : ObjOk X.prog X.w (upd H s.heap.objs.size (.tup [x, y])) g s.heap.objs.size (.tup [x, y]) := ⟨by show 2 ≤ sizeLine; decide, [u, v], .cons ru (.cons rw' .nil), _, tn, rfl, _, rfl⟩
    have I1 : Inv X pins σ (upd H s.heap.objs.size (.tup [x, y])) { s with heap := g, toks := tk } :=
      I.turnedNew (t' := tk) (ch := [z, TI, TO, i1, i2]) (fun c o hb q => by
        obtain ⟨q1, q2, q3, q4, q5⟩ := no5 hb
        exact (sb.2 c q1).trans (hk c o q1 q3 q4 q5 q)) hf (Nat.le_refl _) nw
    refine ⟨.ref s.heap.objs.size, _, I1, rfl, ⟨_, x, y, rfl, I.hok.fresh (Nat.le_refl _), rfl, fun l hl => by rw [inv_sq_inj I hl qx]; exact hx, fun l hl => by rw [inv_sq_inj I hl qy]; exact hy⟩, ⟨z'', ?_, ⟨u, v, ?_⟩, ?_, ?_⟩, fun c hm => ?_⟩
    · exact (sb.2 _ D.TIz).trans (hk _ _ D.TIz D.TITO D.TIi1 D.TIi2 hI)
    · exact (sb.2 _ D.TOz).trans O'
    · exact itB_at n1.1 fun o q => (sb.2 _ D.i1z).trans q
    · exact itB_at n2.1 fun o q => (sb.2 _ D.i2z).trans q
    · have lt : c < s.heap.objs.size := by
        obtain ⟨o1, e1, _⟩ := itB_obj h1
        obtain ⟨o2, e2, _⟩ := itB_obj h2
        rcases mem5 hm with rfl | rfl | rfl | rfl | rfl
        · exact zlt
        · exact Heap.lt_size hI
        · exact Heap.lt_size hO
        · exact Heap.lt_size e1
        · exact Heap.lt_size e2
      rw [upd_ne (Nat.ne_of_lt lt)]
      exact (hf c hm).1
  done := by
    rintro X rfl rfl rfl hc i pins s σ H E I hf ⟨hz, hI, ⟨x0, y0, hO⟩, h1, h2⟩ ⟨xs, ys, qx, qy, hend⟩
    obtain ⟨us, rv, p⟩ := inv_sq I qx
    obtain ⟨ws, rv2, p2⟩ := inv_sq I qy
    have e1 : us.toArray.size = xs.length := by rw [List.size_toArray]; exact rv.length.symm
    have e2 : ws.toArray.size = ys.length := by rw [List.size_toArray]; exact rv2.length.symm
    refine wpAny_pyNext_zipD2_end (i := 0) (sep_of D) (drawsB (A := X.A.in1) k1 i (show X.A.in1.handled = none from I.ok.hd hc) i1 a D.l1i1 us.toArray) (drawsB (A := X.A.in1) k2 i (show X.A.in1.handled = none from I.ok.hd hc) i2 b D.l2i2 ws.toArray) hz hI hO ⟨h1, p⟩ ⟨h2, p2⟩ (by omega) (by omega) (by omega) fun h' tk hk => ⟨rfl, ?_⟩
    exact I.turnedL (t' := tk) (ch := [z, TI, TO, i1, i2]) (fun c o hb q => by
      obtain ⟨q1, q2, q3, q4, q5⟩ := no5 hb
      exact hk c o q1 q3 q4 q5 q) hf
  self := fun A i s Q E st h => wpAny_pyIter_zip st.1 h
def iZipB (K : PySem.W.Frag) (ta : TA) : TI := fun σ H R => ta σ H fun vs H1 => ∃ k1 k2 a b xs ys, vs = [.ref a, .ref b] ∧ SqB k1 K H1 a xs ∧ SqB k2 K H1 b ys ∧ R (Itzb k1 k2 K a b) H1
theorem pi_zipB {X : Cx} {e e2 : Expr} {ta : TA} {p pos tpos : Pos} {elts : List Expr} {kk : Nat} (hg : Gl X "zip") (hm : X.mg "zip" = none) (ha : PA X [e, e2] ta)
    (hs : starEach [e, e2] X.env = (false, eval e X.env) :: starEach [e2] X.env := by rfl) (hpl : (backTo pos (starEach [e2] X.env)).any (·.1) = false := by rfl) :
    PI X (.Tuple elts kk tpos) (.Call (.Name "zip" p) [e, e2] [] pos) (iZipB X.K ta) := by
  refine ⟨fun pins s σ H R I h => ?_⟩
  refine Call_ (ld_blt I hg hm PyProof.Rows.boot_zip (PyProof.Rows.callWith_type1 (thn (ha.run pos pins s σ H _ I h) fun us s1 ⟨vs, H1, I1, r1, q1⟩ => ?_) hs hpl))
  obtain ⟨k1, k2, a, b, xs, ys, rfl, hx, hy, q⟩ := q1
  cases r1 with
  | cons r rr =>
    cases rr with
    | cons r' rr =>
      cases rr; cases r; cases r'
      have fr : ∀ c, c ∈ [s1.heap.objs.size + 4, s1.heap.objs.size + 2, s1.heap.objs.size + 3, s1.heap.objs.size, s1.heap.objs.size + 1] → FpOk X pins H1 c := fun c hm => by
        have le : s1.heap.objs.size ≤ c := by rcases mem5 hm with rfl | rfl | rfl | rfl | rfl <;> omega
        exact I1.fpOk le (I1.hok.fresh le)
      obtain ⟨us, rv, p1⟩ := inv_sq I1 hx
      obtain ⟨ws, rv2, p2⟩ := inv_sq I1 hy
      refine zip_begins2 (begB k1 a us.toArray) (begB k2 b ws.toArray) p1 p2 fun h' z TI TO e1 e2 _ hk => wpAny_pyIter_zip z ?_
      have I2 : Inv X pins σ H1 { s1 with heap := h' } := I1.kept (t' := s1.toks) hk
      exact ⟨s1.heap.objs.size + 4, [s1.heap.objs.size + 4, s1.heap.objs.size + 2, s1.heap.objs.size + 3, s1.heap.objs.size, s1.heap.objs.size + 1], _, _, H1, rfl, I2, turn_zb (PySem.W.ktu_apart s1.heap.objs.size a b (seB_lt p1) (seB_lt p2)), ⟨z, TI, ⟨_, _, TO⟩, itB_new e1, itB_new e2⟩, fr, q⟩
section
variable {K : PySem.W.Frag} {mg : Str → Option Value} {E : L2.St → XK} {G H : Hp}
theorem sqB_mono {k : Bool} {a : Addr} {xs : List V} {H' : Hp} (e : Same H H') (h : SqB k K H a xs) : SqB k K H' a xs := by
  cases k with
  | true => exact seqT_mono e h
  | false => exact e.seq h
theorem itOk_zb {k1 k2 : Bool} {a b : Addr} {xs ys : List V} {ds es : List D} (h1 : SqB k1 K G a xs) (h2 : SqB k2 K G b ys) (d1 : DpAll K G xs ds) (d2 : DpAll K G ys es) : ItOk K G (Itzb k1 k2 K a b) (zipD ds es) := by
  intro i G1 H1 s1 s2
  have q1 : SqB k1 K H1 a xs := sqB_mono s2 (sqB_mono s1 h1)
  have q2 : SqB k2 K H1 b ys := sqB_mono s2 (sqB_mono s1 h2)
  refine ⟨fun d e => ?_, fun e => ?_⟩
  · obtain ⟨dx, dy, e1, e2, rfl⟩ := zipD_get e
    obtain ⟨x, ex, px⟩ := dpa_get d1 e1
    obtain ⟨y, ey, py⟩ := dpa_get d2 e2
    refine ⟨⟨xs, ys, x, y, q1, q2, ex, ey⟩, ?_⟩
    rintro v H2 ⟨T, x', y', rfl, hT, rfl, k1, k2⟩
    obtain rfl : x' = x := Option.some.inj ((k1 xs q1).symm.trans ex)
    obtain rfl : y' = y := Option.some.inj ((k2 ys q2).symm.trans ey)
    exact gf_tup2 s2 hT (dp_mono s1 _ _ px) (dp_mono s1 _ _ py)
  · refine ⟨xs, ys, q1, q2, ?_⟩
    have l := List.getElem?_eq_none_iff.mp e
    rw [zipD_len, ← dpa_len d1, ← dpa_len d2] at l
    omega
def zipB : List D → Rs (List D)
  | [.tuple xs, .tuple ys] => .ok (zipD xs ys)
  | [.list xs, .list ys] => .ok (zipD xs ys)
  | [.tuple xs, .list ys] => .ok (zipD xs ys)
  | [.list xs, .tuple ys] => .ok (zipD xs ys)
  | _ => .stk
theorem sq_of {v : V} {d : D} {ds : List D} (k : Bool) (hd : d = match k with | true => .tuple ds | false => .list ds) (h : Dp K G v d) (gh : Same G H) : ∃ a xs, v = .ref a ∧ SqB k K H a xs ∧ DpAll K G xs ds := by
  cases k with
  | true =>
    have hd : d = .tuple ds := hd
    subst hd
    cases h with
    | @tup a xs _ hs ha => exact ⟨a, xs, rfl, seqT_mono gh hs, ha⟩
  | false =>
    have hd : d = .list ds := hd
    subst hd
    cases h with
    | @lst a xs _ hs ha => exact ⟨a, xs, rfl, gh.seq hs, ha⟩
theorem si_zipB {ta : TA} {a : Am} (h1 : SA K mg E ta a) : SI K mg E (iZipB K ta) (imRng zipB a) := by
  refine ⟨fun F σ en G H R g h => ?_⟩
  show ta σ H _
  refine sa_bind h1 g poI_err id h fun ds en1 vs G1 H1 p1 g1 s1 d1 => ?_
  have p2 : PoI K mg (E σ) F σ G R ((zipB ds).bind fun ds => .ok (ds, en1)) := p1
  have key : ∀ (k1 k2 : Bool) (x y : D) (xs ys : List D), ds = [x, y] → (x = match k1 with | true => .tuple xs | false => .list xs) → (y = match k2 with | true => .tuple ys | false => .list ys) → zipB ds = .ok (zipD xs ys) → ∃ k1 k2 a b us ws, vs = [.ref a, .ref b] ∧ SqB k1 K H1 a us ∧ SqB k2 K H1 b ws ∧ R (Itzb k1 k2 K a b) H1 := by
    intro k1 k2 x y xs ys e ex ey ez
    subst e
    rw [ez] at p2
    cases d1 with
    | cons dx t =>
      cases t with
      | cons dy t =>
        cases t
        obtain ⟨a, us, rfl, q1, r1⟩ := sq_of k1 ex dx (Same.refl _)
        obtain ⟨b, ws, rfl, q2, r2⟩ := sq_of k2 ey dy (Same.refl _)
        exact ⟨k1, k2, a, b, us, ws, rfl, sqB_mono g1.gf.gh q1, sqB_mono g1.gf.gh q2, p2 _ G1 H1 g1 s1 (itOk_zb q1 q2 r1 r2)⟩
  unfold zipB at p2 key
  split at p2
  · rename_i xs ys; exact key true true _ _ xs ys rfl rfl rfl rfl
  · rename_i xs ys; exact key false false _ _ xs ys rfl rfl rfl rfl
  · rename_i xs ys; exact key true false _ _ xs ys rfl rfl rfl rfl
  · rename_i xs ys; exact key false true _ _ xs ys rfl rfl rfl rfl
  · exact (show False from p2).elim
end
end Mir
end
section
set_option Elab.async false
set_option linter.all false
set_option maxRecDepth 100000
set_option maxHeartbeats 4000000
namespace Mir
open PySem PySem.Spec PyProof.Rows L2
def pinAt (en : En) (i : Nat) : Option MO := match en[i]? with
  | some (.own (.src c t)) => some (.src c t)
  | some (.own (.dl ds)) => some (.dl ds)
  | _ => none
theorem pinAt_1 {en : En} {i : Nat} {mo : MO} (h : pinAt en i = some mo) : mo.pin1 = false := by
  unfold pinAt at h
  split at h
  · cases h; rfl
  · cases h; rfl
  · cases h
theorem pin1_no {mo mo' : MO} (h : mo'.pin1 = false) : mo'.pin1 = true → mo.pin1 = true := fun z => by rw [h] at z; cases z
theorem pinAt_some {en : En} {i : Nat} {mo : MO} (h : pinAt en i = some mo) : en[i]? = some (.own mo) ∧ mo.pin = true := by
  unfold pinAt at h
  split at h
  · cases h; exact ⟨by assumption, rfl⟩
  · cases h; exact ⟨by assumption, rfl⟩
  · cases h
def fnD (n np : Nat) (m : Sm) (mo : MO) (ds : List D) : Rs (D × MO) := if ds.length + 1 = np then (endOf (m (enOfS n mo ds))).bind fun p => match pinAt p.2 0 with
    | some mo' => .ok (p.1, mo')
    | none => .stk
  else .stk
def spD (K : PySem.W.Frag) (mg : Str → Option Value) (m : MO → List D → Rs (D × MO)) : Sp := fun vs H Q E => ∃ G p vr ds mo as, vs = p :: vr ∧ Same G H ∧ mo.pin = true ∧ Own K G H p mo as ∧ DpAll K G vr ds ∧
  match m mo ds with
  | .ok (d, mo') => ∀ v G' H', Gf (FS G H p as) G' H' → Own K G' H' p mo' as → mo'.pin1 = false → Dp K G' v d → Q v H'
  | _ => False
section
variable {P : Program} {w : World} {K : PySem.W.Frag} {mg : Str → Option Value} {base : Heap} {x qual : Str} {params : Arguments} {body : List Stmt} {scope : Scope} {f : Addr} {fd : FuncData} {N ps : List Str} {k : Nat}
theorem gd_startD {G H : Hp} {p : V} {vr : List V} {ds : List D} {mo : MO} {as : List Addr} (gh : Same G H) (ow : Own K G H p mo as) (hd : DpAll K G vr ds) : Gd K (FS G H p as) G H (L2.start N (p :: vr)) (enOfS N.length mo ds) := by
  have hl := dpa_len hd
  refine ⟨Gf.refl G H _ _ _ gh, ?_, ⟨fun _ => 0, fun i sv e => ?_⟩, fun i0 m1 h1 e => ?_⟩
  · unfold enOfS L2.start
    simp only [List.length_append, List.length_map, List.length_replicate, List.length_cons, List.map_cons, List.cons_append, hl]
  · cases i with
    | zero =>
      have e' : some (SV.own mo) = some sv := e
      cases e'
      exact ⟨p, as, rfl, ow, fun a ha => ⟨rfl, .inl ha⟩⟩
    | succ i =>
      have e' : (ds.map SV.dat ++ List.replicate (N.length - (ds.length + 1)) .un)[i]? = some sv := e
      have e2 : sv = .un ∨ ∃ d, ds[i]? = some d ∧ sv = .dat d := by
        by_cases hi : i < ds.length
        · rw [List.getElem?_append_left (by rw [List.length_map]; exact hi), List.getElem?_map] at e'
          cases q : ds[i]? with
          | none => rw [q] at e'; cases e'
          | some d => rw [q] at e'; cases e'; exact .inr ⟨d, rfl, rfl⟩
        · rw [List.getElem?_append_right (by rw [List.length_map]; omega)] at e'
          left
          exact List.eq_of_mem_replicate (List.mem_of_getElem? e')
      rcases e2 with rfl | ⟨d, e1, rfl⟩
      · trivial
      · obtain ⟨v, e2, dv⟩ := dpa_get hd e1
        exact ⟨v, start_get (vs := p :: vr) (i := i + 1) e2, dv⟩
  · obtain ⟨rfl, rfl⟩ := enOfS_own e
    exact ⟨rfl, ow⟩
theorem fnD_ok [CxK] {m : Sm} (F : FunD K x qual params body scope [] [] f fd) (S : FnScope N ps scope) (hn : ps.length ≤ N.length)
    (hb : ∀ (cdv : Value) (A : Around) (outer : List Env) (s : Shared) (H : Hp) (E : XK), (A.deeper (envOfC qual scope s.heap.objs.size f cdv)).guards = some [] → Room k (A.deeper (envOfC qual scope s.heap.objs.size f cdv)) →
      ∃ t, PSs (cxOf (CxK.cx P w) P w K mg base N qual scope f cdv A outer s H E) body t ∧ SS K mg E t m) :
    FnG P w K mg base (CxK.cx P w) (k + 1) f fd ps (spD K mg (fnD N.length ps.length m)) := by
  have len : ∀ vs H Q E, spD K mg (fnD N.length ps.length m) vs H Q E → vs.length = ps.length := by
    rintro vs H Q E ⟨G, p, vr, ds, mo, as, rfl, gh, hm, ow, hd, h⟩
    by_cases q : ds.length + 1 = ps.length
    · rw [List.length_cons, dpa_len hd, q]
    · have : fnD N.length ps.length m mo ds = .stk := if_neg q
      rw [this] at h
      exact h.elim
  refine fnG_of F S len fun cdv A outer s H vs Q E hgd hr hsp => ?_
  obtain ⟨t, h1, h2⟩ := hb cdv A outer s H E hgd hr
  refine ⟨t, h1, ?_⟩
  have hlen := len vs H Q E hsp
  obtain ⟨G, p, vr, ds, mo, as, rfl, gh, hm, ow, hd, h⟩ := hsp
  refine h2.run (FS G H p as) _ (enOfS N.length mo ds) G H _ (gd_startD gh ow hd) ?_
  have hq : ds.length + 1 = ps.length := by rw [← dpa_len hd]; exact hlen
  have e1 : fnD N.length ps.length m mo ds = (endOf (m (enOfS N.length mo ds))).bind fun p => match pinAt p.2 0 with
    | some mo' => .ok (p.1, mo')
    | none => .stk := if_pos hq
  rw [e1] at h
  have fin : ∀ {d : D} {en' : En}, (match (match pinAt en' 0 with
      | some mo' => (.ok (d, mo') : Rs (D × MO))
      | none => .stk) with
    | .ok (d, mo') => ∀ v G' H', Gf (FS G H p as) G' H' → Own K G' H' p mo' as → mo'.pin1 = false → Dp K G' v d → Q v H'
    | _ => False) → ∀ v σ' G' H', Gd K (FS G H p as) G' H' σ' en' → Dp K G' v d → Q v H' := fun {d en'} h v σ' G' H' g' dv => by
    cases q0 : pinAt en' 0 with
    | none => rw [q0] at h; exact h.elim
    | some mo' =>
      rw [q0] at h
      obtain ⟨z1, z2⟩ := pinAt_some q0
      exact h v G' H' g'.gf (g'.pin 0 mo' (MO.pinS_0 z2) z1).2 (pinAt_1 q0) dv
  cases q : m (enOfS N.length mo ds) with
  | stk => rw [q] at h; exact h.elim
  | err c fs => rw [q] at h; exact h.elim
  | ok z =>
    obtain ⟨fl, en'⟩ := z
    rw [q] at h
    cases fl with
    | nx => exact fun σ' G' H' g' _ => fin h .non σ' G' H' g' .non
    | bk => exact h.elim
    | ct => exact h.elim
    | rt d => exact fun v σ' G' H' g' _ dv => fin h v σ' G' H' g' dv
end
section
variable {K : PySem.W.Frag} {mg : Str → Option Value} {E : L2.St → XK} {F : Fm} {σ : L2.St} {G G' H H' : Hp} {en : En}
def eCallD (m : MO → List D → Rs (D × MO)) (i : Nat) (a : Am) : Em := fun en => match pinAt en i with
  | none => .stk
  | some _ => (a en).bind fun p => match pinAt p.2 i with
    | none => .stk
    | some mo => (m mo p.1).calm.bind fun q => .ok (q.1, p.2.set i (.own q.2))
theorem Gd.ownM {i : Nat} {mo : MO} (g : Gd K F G H σ en) (e : en[i]? = some (.own mo)) : ∃ v as, σ[i]? = some (some v) ∧ Own K G H v mo as ∧ ∀ a ∈ as, F.Z a ∨ F.H0 a = none := by
  obtain ⟨om, s⟩ := g.sat
  obtain ⟨v, as, h1, h2, h3⟩ := s i _ e
  exact ⟨v, as, h1, h2, fun a ha => (h3 a ha).2⟩
theorem se_callM {m : MO → List D → Rs (D × MO)} {i : Nat} {ta : TA} {a : Am} {E1 : L2.St → XK} (h1 : SA K mg E ta a) : SE K mg E (tCallG (spD K mg m) E1 (tCons (tVar i) ta)) (eCallD m i a) := by
  refine ⟨fun F σ en G H Q g h => ?_⟩
  unfold eCallD at h
  split at h
  · exact h.elim
  rename_i m0 q0
  obtain ⟨v, as, hv, ow0, _⟩ := g.ownM (pinAt_some q0).1
  refine ⟨v, hv, ?_⟩
  show ta σ H _
  refine sa_bind h1 g poE_err id h fun ds en1 vs G1 H1 p1 g1 s1 d1 => ?_
  split at p1
  · exact p1.elim
  rename_i mo q1
  obtain ⟨z1, z2⟩ := pinAt_some q1
  obtain ⟨v', as', hv', ow, _⟩ := g1.ownM z1
  rw [hv] at hv'; cases hv'
  obtain ⟨⟨d, mo'⟩, em, p2⟩ := calm_bind (P := PoE K mg (E σ) F σ G Q) id p1
  refine ⟨G1, v, vs, ds, mo, as', rfl, g1.gf.gh, z2, ow, d1, ?_⟩
  rw [show m mo ds = .ok (d, mo') from em]
  intro u G' H' f ow' hp du
  exact p2 u G' H' (g1.callM z2 (pin1_no hp) z1 hv ow f ow') (s1.trans f.g0) du
def dlAt (en : En) (i : Nat) : Option (List D) := match en[i]? with
  | some (.own (.dl ds)) => some ds
  | _ => none
theorem dlAt_some {en : En} {i : Nat} {ds : List D} (h : dlAt en i = some ds) : en[i]? = some (.own (.dl ds)) := by
  unfold dlAt at h
  split at h
  · cases h; assumption
  · cases h
theorem Gd.ownD {i : Nat} {ds : List D} (g : Gd K F G H σ en) (e : en[i]? = some (.own (.dl ds))) : ∃ p vs, σ[i]? = some (some (.ref p)) ∧ G p = none ∧ H p = some (.lst vs) ∧ DpAll K G vs ds ∧ (F.Z p ∨ F.H0 p = none) := by
  obtain ⟨om, s⟩ := g.sat
  obtain ⟨v, as, h1, ⟨p, vs, rfl, rfl, h4, h5, h6⟩, h3⟩ := s i _ e
  exact ⟨p, vs, h1, h4, h5, h6, (h3 p (by simp)).2⟩
theorem Gd.mutD {i : Nat} {p : Addr} {ws vs : List V} {ds es : List D} (g : Gd K F G H σ en) (he : en[i]? = some (.own (.dl ds))) (hs : σ[i]? = some (some (.ref p))) (hg : G p = none) (hh : H p = some (.lst vs)) (hv : DpAll K G vs ds) (hd : DpAll K G ws es) :
    Gd K F G (upd H p (.lst ws)) σ (en.set i (.own (.dl es))) := by
  refine g.callM rfl (fun h => nomatch h) he hs (as := [p]) ⟨p, vs, rfl, rfl, hg, hh, hv⟩ ⟨Same.refl _, fun a x e => ?_, fun _ _ h _ => h, fun a o e hz => ?_, fun a h => ?_⟩ ⟨p, ws, rfl, rfl, hg, upd_same, hd⟩
  · have : a ≠ p := fun z => by rw [z, hg] at e; cases e
    rw [upd_ne this]; exact g.gf.gh a x e
  · have : a ≠ p := fun z => hz (by rw [z]; exact List.mem_singleton_self _)
    rw [upd_ne this]; exact e
  · by_cases q : a = p
    · subst q; rw [upd_same]; exact fun z => by cases z
    · rw [upd_ne q]; exact h
theorem Gd.setOwnD {i : Nat} {p : Addr} {vs : List V} {ds : List D} (g : Gd K F G H σ en) (hi0 : i ≠ 0) (hg : G p = none) (hh : H p = some (.lst vs)) (hd : DpAll K G vs ds) (h0 : F.Z p ∨ F.H0 p = none) (fr : Free K G H σ en p) :
    Gd K F G H (σ.set i (some (.ref p))) (en.set i (.own (.dl ds))) := by
  obtain ⟨om, s⟩ := g.sat
  refine ⟨g.gf, by rw [List.length_set, List.length_set, g.len], ⟨fun a => if a = p then i else om a, fun j sv e => ?_⟩, fun i0 mo hm e => ?_⟩
  · by_cases q : i = j
    · subst q
      by_cases hi : i < en.length
      · rw [List.getElem?_set_self hi] at e
        cases e
        exact ⟨.ref p, [p], by rw [List.getElem?_set_self (by rw [← g.len]; exact hi)], ⟨p, vs, rfl, rfl, hg, hh, hd⟩, fun a ha => by
          have : a = p := by simpa using ha
          subst this
          exact ⟨if_pos rfl, h0⟩⟩
      · rw [List.getElem?_eq_none (by rw [List.length_set]; omega)] at e
        cases e
    · rw [List.getElem?_set_ne q] at e ⊢
      have z := s j sv e
      cases sv with
      | un => trivial
      | dat d => exact z
      | own mo =>
        obtain ⟨v, as, h1, h2, h3⟩ := z
        refine ⟨v, as, h1, h2, fun a ha => ⟨?_, (h3 a ha).2⟩⟩
        have : a ≠ p := fun z => fr _ _ _ _ e h1 h2 (by rw [← z]; exact ha)
        show (if a = p then i else om a) = j
        rw [if_neg this]
        exact (h3 a ha).1
  · have q := pin_ne hi0 rfl hm e
    rw [List.getElem?_set_ne q] at e ⊢
    exact g.pin i0 mo hm e
def eDIx (i : Nat) (m : Em) : Em := fun en => match dlAt en i with
  | none => .stk
  | some _ => (m en).bind fun p => match dlAt p.2 i, p.1 with
    | some ds, .int k => match atI ds k with
      | some d => .ok (d, p.2)
      | none => .stk
    | _, _ => .stk
theorem se_dIx {i : Nat} {te : TE} {m : Em} (h1 : SE K mg E te m) : SE K mg E (tOp (rIx K) (tVar i) te) (eDIx i m) := by
  refine ⟨fun F σ en G H Q g h => ?_⟩
  unfold eDIx at h
  split at h
  · exact h.elim
  rename_i ds0 e0
  obtain ⟨p0, vs0, k1, _⟩ := g.ownD (dlAt_some e0)
  refine ⟨.ref p0, k1, ?_⟩
  show te σ H _
  refine se_bind h1 g poE_err id h fun d en1 v G1 H1 p1 g1 s1 d1 => ?_
  split at p1
  · rename_i ds k e1 e2
    have e2' : d = .int k := e2
    subst e2'
    cases d1
    obtain ⟨p, vs, l1, l2, l3, l4, l5⟩ := g1.ownD (dlAt_some e1)
    rw [k1] at l1; cases l1
    split at p1
    · rename_i z hz
      obtain ⟨w, hw, dw⟩ := dpa_atI l4 hz
      exact .inl ⟨p0, vs, k, w, rfl, rfl, .inl (.inl l3), hw, p1 w G1 H1 g1 s1 dw⟩
    · exact p1.elim
  · exact p1.elim
end
section
variable {K : PySem.W.Frag} {mg : Str → Option Value} {E : XK}
/-- a = a new list, to be handed on -/
def mAsgD (i : Nat) (m : Am) : Sm := fun en => if i = 0 then .stk else (m en).bind fun p => .ok (.nx, p.2.set i (.own (.dl p.1)))
theorem ss_asgD {i : Nat} {te : TE} {m : Am} (h1 : SL K mg (fun _ => E) te m) : SS K mg E (tAsg te (gName i)) (mAsgD i m) := by
  refine ⟨fun F σ en G H D g h => ?_⟩
  unfold mAsgD at h
  split at h
  · exact h.elim
  rename_i hi
  show te σ H _
  exact sl_bind h1 g poS_err id h fun ds en1 p vs G1 H1 p1 g1 s1 hg hh hd h0 fr => p1 _ G1 H1 (g1.setOwnD hi hg hh hd (.inr h0) fr) s1
def aRetL (m : Am) : Am := fun en => (m en).calm
theorem so_retL {te : TE} {m : Am} (h1 : SL K mg (fun _ => E) te m) : SOw K mg E (tRet te) (aRetL m) := by
  refine ⟨fun F σ en G H D g h => ?_⟩
  show te σ H _
  refine h1.run F σ en G H _ g ?_
  unfold aRetL at h
  cases q : m en with
  | stk => rw [q] at h; exact h
  | err c fs => rw [q] at h; exact (show False from h).elim
  | ok z =>
    obtain ⟨ds, en1⟩ := z
    rw [q] at h
    intro p vs G' H' g' s' hg hh hd h0 _
    exact h p vs σ G' H' g' s' hg hh hd (.inr h0)
theorem SOw.up {ts : TS} {m : Am} (h : SOw K mg E ts m) {F : Fm} {σ : L2.St} {en : En} {G G0 H : Hp} {D : Ends} (g : Gd K F G H σ en) (s : Same G0 G) (q : match m en with
    | .ok (ds, en') => ∀ p vs σ' G' H', Gd K F G' H' σ' en' → Same G0 G' → G' p = none → H' p = some (.lst vs) → DpAll K G' vs ds → (F.Z p ∨ F.H0 p = none) → D.rt (.ref p) H'
    | _ => False) : ts D σ H := by
  refine h.run F σ en G H D g ?_
  cases e : m en with
  | stk => rw [e] at q; exact q
  | err c fs => rw [e] at q; exact q
  | ok z =>
    obtain ⟨ds, en1⟩ := z
    rw [e] at q
    exact fun p vs σ' G' H' g' s' => q p vs σ' G' H' g' (s.trans s')
end
end Mir
end
section
set_option Elab.async false
set_option linter.all false
set_option maxRecDepth 100000
set_option maxHeartbeats 4000000
namespace Mir
open PySem PySem.Spec PyProof.Rows L2
abbrev Wm := En → Rs (MO × En)
section
variable {K : PySem.W.Frag} {mg : Str → Option Value} {E : L2.St → XK} {F : Fm} {σ : L2.St} {G G' H H' : Hp} {en : En}
theorem Free.keep {q : Addr} {mo : MO} (g : Gd K F G H σ en) (k : ∀ {i : Nat} {mo : MO} {v : V} {as : List Addr}, en[i]? = some (SV.own mo) → σ[i]? = some (some v) → Own K G H v mo as → Own K G' H' v mo as) (f : Free K G H σ en q) : Free K G' H' σ en q := by
  intro i mo v as e1 e2 ow
  obtain ⟨om, s⟩ := g.sat
  obtain ⟨v', as', k1, k2, k3⟩ := s i _ e1
  rw [e2] at k1; cases k1
  obtain rfl := ow.inj (k e1 e2 k2)
  exact f _ _ _ _ e1 e2 k2
end
end Mir
end
section
set_option Elab.async false
set_option linter.all false
set_option maxRecDepth 100000
set_option maxHeartbeats 4000000
namespace Mir
open PySem PySem.Spec PyProof.Rows L2
section
variable {K : PySem.W.Frag} {mg : Str → Option Value} {E : XK}
structure SWr (K : PySem.W.Frag) (mg : Str → Option Value) (E : XK) (ts : TS) (m : Wm) : Prop where
  run : ∀ F σ en G H D, Gd K F G H σ en → (match m en with
    | .ok (mo, en') => ∀ v as σ' G' H', Gd K F G' H' σ' en' → Same G G' → Own K G' H' v mo as → (∀ a ∈ as, F.Z a ∨ F.H0 a = none) → (∀ a ∈ as, Free K G' H' σ' en' a) → D.rt v H'
    | _ => False) → ts D σ H
theorem SWr.up {F : Fm} {G G0 : Hp} {D : Ends} {x : Rs (MO × En)} (s : Same G0 G) : (match x with
    | .ok (mo, en') => ∀ v as σ' G' H', Gd K F G' H' σ' en' → Same G0 G' → Own K G' H' v mo as → (∀ a ∈ as, F.Z a ∨ F.H0 a = none) → (∀ a ∈ as, Free K G' H' σ' en' a) → D.rt v H'
    | _ => False) → match x with
    | .ok (mo, en') => ∀ v as σ' G' H', Gd K F G' H' σ' en' → Same G G' → Own K G' H' v mo as → (∀ a ∈ as, F.Z a ∨ F.H0 a = none) → (∀ a ∈ as, Free K G' H' σ' en' a) → D.rt v H'
    | _ => False := by
  cases x with
  | ok z =>
    obtain ⟨mo, en'⟩ := z
    exact fun q v as σ' G' H' g' s' => q v as σ' G' H' g' (s.trans s')
  | err c fs => exact id
  | stk => exact id
end
end Mir
namespace Mir
open PySem PySem.Spec PyProof.Rows L2
theorem fnG_neverD [CxK] {P : Program} {w : World} {K : PySem.W.Frag} {mg : Str → Option Value} {base : Heap} {f : Addr} {fd : FuncData} {ps : List Str} {k : Nat} : FnG P w K mg base (CxK.cx P w) k f fd ps (spD K mg fun _ _ => .stk) :=
  ⟨fun _ _ _ _ ⟨_, _, _, _, _, _, _, _, _, _, _, h⟩ => h.elim, fun _ _ _ _ _ _ _ _ _ _ _ _ _ _ ⟨_, _, _, _, _, _, _, _, _, _, _, h⟩ => h.elim⟩
end Mir
end
section
set_option Elab.async false
set_option linter.all false
set_option maxRecDepth 100000
set_option maxHeartbeats 4000000
namespace Mir
open PySem PySem.Spec PyProof.Rows L2
def fnW (n np : Nat) (m : Wm) (ds : List D) : Rs MO := if ds.length = np then (m (enOf n ds)).calm.bind fun p => .ok p.1 else .stk
end Mir
end
section
set_option Elab.async false
set_option linter.all false
set_option maxRecDepth 100000
set_option maxHeartbeats 4000000
namespace Mir
open PySem PySem.Spec PyProof.Rows L2
def kvl (f : Str) : List (D × D) → Option D
  | [] => none
  | (.str g, d) :: r => if f = g then some d else kvl f r
  | _ :: r => kvl f r
def putKv (f : Str) (d : D) : List (D × D) → List (D × D)
  | [] => [(.str f, d)]
  | (.str g, e) :: r => if g = f then (.str g, d) :: r else (.str g, e) :: putKv f d r
  | x :: r => x :: putKv f d r
/-- d is an instance of c: its fields -/
def insD (c : Str) : D → Option (List (D × D))
  | .dict ((.str c', .none) :: kvs) => if c' = c then some kvs else none
  | _ => none
theorem insD_some {c : Str} {d : D} {kvs : List (D × D)} (h : insD c d = some kvs) : d = .dict ((.str c, .none) :: kvs) := by
  unfold insD at h
  split at h
  · split at h
    · rename_i e; cases h; rw [e]
    · cases h
  · cases h
@[simp] theorem insD_ok (c : Str) (kvs : List (D × D)) : insD c (.dict ((.str c, .none) :: kvs)) = some kvs := by simp [insD]
section
variable {K : PySem.W.Frag} {G G' H H' : Hp}
theorem dpk_get {f : Str} : ∀ {fs : List (Str × V)} {kvs : List (D × D)} {d : D}, DpKv K G fs kvs → kvl f kvs = some d → ∃ v, fs.lookup f = some v ∧ Dp K G v d
  | _, _, _, .nil, h => by cases h
  | _, _, d, .cons (f := g) (v := v) h1 t, h => by
    unfold kvl at h
    rw [List.lookup_cons]
    by_cases q : f = g
    · rw [if_pos q] at h
      cases h
      rw [q, beq_self_eq_true]
      exact ⟨v, rfl, h1⟩
    · rw [if_neg q] at h
      have : (f == g) = false := by simpa using q
      rw [this]
      exact dpk_get t h
theorem dpk_no {f : Str} : ∀ {fs : List (Str × V)} {kvs : List (D × D)}, DpKv K G fs kvs → kvl f kvs = none → fs.lookup f = none
  | _, _, .nil, h => rfl
  | _, _, .cons (f := g) (v := v) h1 t, h => by
    unfold kvl at h
    rw [List.lookup_cons]
    by_cases q : f = g
    · rw [if_pos q] at h; cases h
    · rw [if_neg q] at h
      have : (f == g) = false := by simpa using q
      rw [this]
      exact dpk_no t h
theorem dpk_put {f : Str} {v : V} {d : D} (h : Dp K G v d) : ∀ {fs : List (Str × V)} {kvs : List (D × D)}, DpKv K G fs kvs → DpKv K G (putF f v fs) (putKv f d kvs)
  | _, _, .nil => .cons h .nil
  | _, _, .cons (f := g) (v := u) (d := e) h1 t => by
    unfold putF putKv
    by_cases q : g = f
    · rw [if_pos q, if_pos q]; exact .cons h t
    · rw [if_neg q, if_neg q]; exact .cons h1 (dpk_put h t)
theorem dpk_len : ∀ {fs : List (Str × V)} {kvs : List (D × D)}, DpKv K G fs kvs → fs.length = kvs.length
  | _, _, .nil => rfl
  | _, _, .cons _ t => by rw [List.length_cons, List.length_cons, dpk_len t]
theorem dp_ins {v : V} {c : Str} {d : D} {kvs : List (D × D)} (h : Dp K G v d) (e : insD c d = some kvs) : ∃ a dx fs, v = .ref a ∧ G a = some (.ins (He.ga K c) dx fs) ∧ InsOk K (He.ga K c) ∧ DpKv K G fs kvs := by
  have := insD_some e
  subst this
  cases h with
  | ins h1 h2 h3 => exact ⟨_, _, _, rfl, h1, h2, h3⟩
end
section
variable {K : PySem.W.Frag} {mg : Str → Option Value} {E : L2.St → XK} {F : Fm} {σ : L2.St} {G G' H H' : Hp} {en : En}
def eFld (c f : Str) (m : Em) : Em := fun en => (m en).bind fun p => match insD c p.1 with
  | some kvs => match kvl f kvs with
    | some d => .ok (d, p.2)
    | none => .stk
  | none => .stk
theorem se_fld {c f : Str} {te : TE} {m : Em} (hn : NoAttr K (He.ga K c) f) (h1 : SE K mg E te m) : SE K mg E (tFld K te f) (eFld c f m) := by
  refine ⟨fun F σ en G H Q g h => ?_⟩
  show te σ H _
  refine se_bind h1 g poE_err id h fun d en1 v G1 H1 p1 g1 s1 d1 => ?_
  dsimp only at p1
  cases e : insD c d with
  | none => rw [e] at p1; exact p1.elim
  | some kvs =>
    rw [e] at p1
    obtain ⟨a, dx, fs, rfl, h2, h3, h4⟩ := dp_ins d1 e
    cases e2 : kvl f kvs with
    | none => simp only [e2] at p1; exact p1.elim
    | some z =>
      simp only [e2] at p1
      obtain ⟨u, l, du⟩ := dpk_get h4 e2
      exact ⟨a, _, dx, fs, u, rfl, g1.gf.gh _ _ h2, h3.cl, hn, l, p1 u G1 H1 g1 s1 du⟩
def tMethG (K : PySem.W.Frag) (C : Addr) (m : Str) (sp : Sp) (E : L2.St → XK) (ta : TE) (t : TA) : TE := fun σ H Q => ta σ H fun x H1 => ∃ a dx fs, x = .ref a ∧ H1 a = some (.ins C dx fs) ∧ Cls K C ∧ fs.lookup m = none ∧ t σ H1 fun vs H2 => sp (x :: vs) H2 Q (E σ)
def eMeth (c m : Str) (M : List D → Rs D) (o : Em) (a : Am) : Em := fun en => (o en).bind fun p => match insD c p.1 with
  | some kvs => if (kvl m kvs).isNone = true then (a p.2).bind fun q => (M (p.1 :: q.1)).bind fun d => .ok (d, q.2) else .stk
  | none => .stk
theorem se_meth {c m : Str} {M : List D → Rs D} {te : TE} {ta : TA} {o : Em} {a : Am} (h0 : SE K mg E te o) (h1 : SA K mg E ta a) : SE K mg E (tMethG K (He.ga K c) m (spP K mg M) E te ta) (eMeth c m M o a) := by
  refine ⟨fun F σ en G H Q g h => ?_⟩
  show te σ H _
  refine se_bind h0 g poE_err id h fun d en1 v G1 H1 p1 g1 s1 d1 => ?_
  dsimp only at p1
  cases e : insD c d with
  | none => rw [e] at p1; exact p1.elim
  | some kvs =>
    simp only [e] at p1
    obtain ⟨b, dx, fs, rfl, h2, h3, h4⟩ := dp_ins d1 e
    cases e2 : kvl m kvs with
    | some z => rw [e2] at p1; exact p1.elim
    | none =>
      rw [e2] at p1
      refine ⟨b, dx, fs, rfl, g1.gf.gh _ _ h2, h3.cl, dpk_no h4 e2, ?_⟩
      refine sa_bind h1 g1 poE_err id (p1 : PoE K mg (E σ) F σ G Q ((a en1).bind fun q => (M (d :: q.1)).bind fun d => .ok (d, q.2))) fun ds en2 vs G2 H2 p2 g2 s2 d2 => ?_
      refine ⟨G2, d :: ds, g2.gf.gh, .cons (dp_mono s2 _ _ d1) d2, ?_⟩
      have p2' : PoE K mg (E σ) F σ G Q ((M (d :: ds)).bind fun d => .ok (d, en2)) := p2
      cases q : M (d :: ds) with
      | stk => rw [q] at p2'; exact p2'.elim
      | err c fs =>
        rw [q] at p2'
        exact fun cls dx H' e => p2' cls dx H' (ErrAt.back (F' := F0 G2 H2) g2.gf rfl rfl (fun _ z => z.elim) e)
      | ok d =>
        rw [q] at p2'
        exact fun v G' H' f hd => p2' v G' H' (g2.grow f) ((s1.trans s2).trans f.g0) hd
end
structure CalM [CxK] (P : Program) (w : World) (K : PySem.W.Frag) (mg : Str → Option Value) (base : Heap) (k : Nat) (c m : Str) (d : He.DefD) (ps : List Str) (sp : Sp) : Prop where
  ex : ∃ fd, FunD K d.name d.qual d.params d.body d.scope [] [] (He.fAd K d.at_) fd ∧ FnG P w K mg base (CxK.cx P w) k (He.fAd K d.at_) fd ps sp ∧ Binds K fd ps []
  me : Meth K (He.ga K c) m (He.fAd K d.at_)
section
variable {X : Cx} {j k : Nat} {c m : Str} {d : He.DefD} {ps ks : List Str} {perm : List Nat} {sp : Sp} {E : L2.St → XK} {pos apos : Pos} {e o : Expr} {es : List Expr} {kws : List Keyword} {ta : TE} {t tk : TA}
variable {P : Program} {w : World} {K : PySem.W.Frag} {mg : Str → Option Value} {base : Heap}
theorem pe_methX [CxK] {pl : Sem Bool} (cm : CalM X.prog X.w X.K X.mg X.base k c m d ps sp) (hgd : X.A.guards = some []) (hr : Room j X.A) (hk : k ≤ j) (hx : ∀ σ, PassesAt (CxK.cx X.prog X.w) X σ (E σ)) (he : PE X o ta) (ha : PA X (e :: es) t)
    (hst : starEach (e :: es) X.env = (false, eval e X.env) :: starEach es X.env := by rfl) (hpl : (backTo pos (starEach es X.env)).any (·.1) = false := by rfl)
    (ht : eval (.Call (.Attribute o m apos) (e :: es) [] pos) X.env = (do
      let ov ← eval o X.env
      standAt apos.atName
      let (f, first) ← holding [ov] (getMethod ov m pl)
      callWith pos f first (backTo pos (starEach (e :: es) X.env)) (backToKw pos (keywordEach [] X.env))) := by rfl) :
    PE X (.Call (.Attribute o m apos) (e :: es) [] pos) (tMethG X.K (He.ga X.K c) m sp E ta t) := by
  obtain ⟨fd, F, Fn, B⟩ := cm.ex
  refine ⟨fun pins s σ H Q I h => ?_⟩
  refine PySem.W.methodCall_KW (pl := pl) (thn (he.run pins s σ H _ I h) fun u s1 ⟨x, H1, I1, rx, a, dx, fs, ex, ea, cl, l, q⟩ => ?_) ht
  subst ex
  obtain rfl : u = Value.ref a := rx
  refine getmeth_ok I1 ea cl cm.me l ?_
  refine PySem.W.callWith_K (first := [.ref a]) (h₀ := X.base) I.ok.mod.kin cm.me.kp (thn (ha.run pos pins s1 σ H1 _ I1 q) fun us s2 ⟨vs, H2, I2, r, q2⟩ => ⟨I2.kIn, ?_⟩) hst hpl
  exact go_fn (us := .ref a :: us) (vs := .ref a :: vs) Fn hgd (hr.mono hk) B (hx σ) I2 (.cons rfl r) q2
theorem pe_methG [CxK] {pl : Sem Bool} (cm : CalM P w K mg base k c m d ps sp) (hgd : X.A.guards = some []) (hr : Room j X.A) (hk : k ≤ j) (hx : ∀ σ, PassesAt (CxK.cx X.prog X.w) X σ (E σ)) (he : PE X o ta) (ha : PA X (e :: es) t)
    (z1 : X.prog = P := by rfl) (z2 : X.w = w := by rfl) (z3 : X.K = K := by rfl) (z4 : X.mg = mg := by rfl) (z5 : X.base = base := by rfl)
    (hst : starEach (e :: es) X.env = (false, eval e X.env) :: starEach es X.env := by rfl) (hpl : (backTo pos (starEach es X.env)).any (·.1) = false := by rfl)
    (ht : eval (.Call (.Attribute o m apos) (e :: es) [] pos) X.env = (do
      let ov ← eval o X.env
      standAt apos.atName
      let (f, first) ← holding [ov] (getMethod ov m pl)
      callWith pos f first (backTo pos (starEach (e :: es) X.env)) (backToKw pos (keywordEach [] X.env))) := by rfl) :
    PE X (.Call (.Attribute o m apos) (e :: es) [] pos) (tMethG K (He.ga K c) m sp E ta t) := by
  subst z1 z2 z3 z4 z5
  exact pe_methX cm hgd hr hk hx he ha hst hpl ht
end
def ivAt (en : En) (i : Nat) : Option (Str × List (D × D)) := match en[i]? with
  | some (.own (.iv c kvs)) => some (c, kvs)
  | _ => none
theorem ivAt_some {en : En} {i : Nat} {c : Str} {kvs : List (D × D)} (h : ivAt en i = some (c, kvs)) : en[i]? = some (.own (.iv c kvs)) := by
  unfold ivAt at h
  split at h
  · cases h; assumption
  · cases h
def endV (c : Str) (p : D × En) : Rs (List (D × D)) := match p.1 with
  | .none => match ivAt p.2 0 with
    | some (c', kvs) => if c' = c then .ok kvs else .stk
    | none => .stk
  | _ => .stk
theorem endV_ok {c : Str} {p : D × En} {kvs : List (D × D)} (h : endV c p = .ok kvs) : p.1 = .none ∧ p.2[0]? = some (.own (.iv c kvs)) := by
  obtain ⟨d, en⟩ := p
  unfold endV at h
  cases d with
  | none =>
    dsimp only at h
    cases q : ivAt en 0 with
    | none => rw [q] at h; cases h
    | some z =>
      obtain ⟨c', kvs'⟩ := z
      rw [q] at h
      dsimp only at h
      by_cases hc : c' = c
      · rw [if_pos hc] at h
        cases h
        rw [← hc]
        exact ⟨rfl, ivAt_some q⟩
      · rw [if_neg hc] at h; cases h
  | _ => cases h
theorem endV_err {c : Str} {p : D × En} {x : Str} {fs : List (Str × D)} (h : endV c p = .err x fs) : False := by
  obtain ⟨d, en⟩ := p
  unfold endV at h
  cases d with
  | none =>
    dsimp only at h
    cases q : ivAt en 0 with
    | none => rw [q] at h; cases h
    | some z =>
      obtain ⟨c', kvs'⟩ := z
      rw [q] at h
      dsimp only at h
      split at h <;> cases h
  | _ => cases h
def fnV (n np : Nat) (m : Sm) (c : Str) (ds : List D) : Rs (List (D × D)) := if ds.length + 1 = np then (endOf (m (enOfS n (.iv c []) ds))).bind (endV c) else .stk
def spV (K : PySem.W.Frag) (mg : Str → Option Value) (c : Str) (m : List D → Rs (List (D × D))) : Sp := fun vs H Q E => ∃ G p dx vr ds, vs = V.ref p :: vr ∧ Same G H ∧ G p = none ∧ H p = some (.ins (He.ga K c) dx []) ∧ DpAll K G vr ds ∧
  match m ds with
  | .ok kvs => ∀ G' H', Gf (FS G H (.ref p) [p]) G' H' → Own K G' H' (.ref p) (.iv c kvs) [p] → Q .non H'
  | .err x fs => ∀ cls dx H', ErrAt K mg (FS G H (.ref p) [p]) x fs cls dx H' → E cls dx H'
  | .stk => False
section
variable {P : Program} {w : World} {K : PySem.W.Frag} {mg : Str → Option Value} {base : Heap} {x qual : Str} {params : Arguments} {body : List Stmt} {scope : Scope} {f : Addr} {fd : FuncData} {N ps : List Str} {k : Nat}
theorem fnV_ok [CxK] {c : Str} {m : Sm} (F : FunD K x qual params body scope [] [] f fd) (S : FnScope N ps scope) (hn : ps.length ≤ N.length)
    (hb : ∀ (cdv : Value) (A : Around) (outer : List Env) (s : Shared) (H : Hp) (E : XK), (A.deeper (envOfC qual scope s.heap.objs.size f cdv)).guards = some [] → Room k (A.deeper (envOfC qual scope s.heap.objs.size f cdv)) →
      ∃ t, PSs (cxOf (CxK.cx P w) P w K mg base N qual scope f cdv A outer s H E) body t ∧ SS K mg E t m) :
    FnG P w K mg base (CxK.cx P w) (k + 1) f fd ps (spV K mg c (fnV N.length ps.length m c)) := by
  have len : ∀ vs H Q E, spV K mg c (fnV N.length ps.length m c) vs H Q E → vs.length = ps.length := by
    rintro vs H Q E ⟨G, p, dx, vr, ds, rfl, gh, hg, hh, hd, h⟩
    by_cases q : ds.length + 1 = ps.length
    · rw [List.length_cons, dpa_len hd, q]
    · have : fnV N.length ps.length m c ds = .stk := if_neg q
      rw [this] at h
      exact h.elim
  refine fnG_of F S len fun cdv A outer s H vs Q E hgd hr hsp => ?_
  obtain ⟨t, h1, h2⟩ := hb cdv A outer s H E hgd hr
  refine ⟨t, h1, ?_⟩
  have hlen := len vs H Q E hsp
  obtain ⟨G, p, dx, vr, ds, rfl, gh, hg, hh, hd, h⟩ := hsp
  have ow : Own K G H (.ref p) (.iv c []) [p] := ⟨p, dx, [], rfl, rfl, hg, hh, .nil⟩
  refine h2.run (FS G H (.ref p) [p]) _ (enOfS N.length (.iv c []) ds) G H _ (gd_startD gh ow hd) ?_
  have hq : ds.length + 1 = ps.length := by rw [← dpa_len hd]; exact hlen
  have e1 : fnV N.length ps.length m c ds = (endOf (m (enOfS N.length (.iv c []) ds))).bind (endV c) := if_pos hq
  rw [e1] at h
  have fin : ∀ {d : D} {en' : En}, (match endV c (d, en') with
    | .ok kvs => ∀ G' H', Gf (FS G H (.ref p) [p]) G' H' → Own K G' H' (.ref p) (.iv c kvs) [p] → Q .non H'
    | .err x fs => ∀ cls dx H', ErrAt K mg (FS G H (.ref p) [p]) x fs cls dx H' → E cls dx H'
    | .stk => False) → ∀ v σ' G' H', Gd K (FS G H (.ref p) [p]) G' H' σ' en' → Dp K G' v d → Q v H' := fun {d en'} h v σ' G' H' g' dv => by
    cases q0 : endV c (d, en') with
    | stk => rw [q0] at h; exact h.elim
    | err x fs => exact (endV_err q0).elim
    | ok kvs =>
      rw [q0] at h
      obtain ⟨z1, z2⟩ := endV_ok q0
      have z1' : d = .none := z1
      subst z1'
      cases dv
      exact h G' H' g'.gf (g'.pin 0 (.iv c kvs) (MO.pinS_0 rfl) z2).2
  cases q : m (enOfS N.length (.iv c []) ds) with
  | stk => rw [q] at h; exact h.elim
  | err c fs => rw [q] at h; exact h
  | ok z =>
    obtain ⟨fl, en'⟩ := z
    rw [q] at h
    cases fl with
    | nx => exact fun σ' G' H' g' _ => fin (d := .none) h .non σ' G' H' g' .non
    | bk => exact h.elim
    | ct => exact h.elim
    | rt d => exact fun v σ' G' H' g' _ dv => fin h v σ' G' H' g' dv
end
section
variable {K : PySem.W.Frag} {mg : Str → Option Value} {E : L2.St → XK} {F : Fm} {σ : L2.St} {G G' H H' : Hp} {en : En}
def mPutF (i : Nat) (c f : Str) (m : Em) : Sm := fun en => (m en).bind fun p => match ivAt p.2 i with
  | some (c', kvs) => if c' = c ∧ kvs.length < 1000 then .ok (.nx, p.2.set i (.own (.iv c (putKv f p.1 kvs)))) else .stk
  | none => .stk
theorem Gd.mutV {i : Nat} {p : Addr} {c : Str} {o : HO} {kvs kvs' : List (D × D)} (g : Gd K F G H σ en) (he : en[i]? = some (.own (.iv c kvs))) (hs : σ[i]? = some (some (.ref p))) (ow : Own K G (upd H p o) (.ref p) (.iv c kvs') [p]) :
    Gd K F G (upd H p o) σ (en.set i (.own (.iv c kvs'))) := by
  obtain ⟨om, s⟩ := g.sat
  obtain ⟨v, as, h1, h2, h3⟩ := s i _ he
  rw [hs] at h1; cases h1
  obtain ⟨p', dx, fs, q1, q2, q3, q4, q5⟩ := h2
  cases q1
  subst q2
  obtain ⟨o1, o2⟩ := h3 p (by simp)
  have hi : i < en.length := (List.getElem?_eq_some_iff.mp he).1
  have keep : ∀ {j : Nat} {v : V} {mo : MO} {as : List Addr}, j ≠ i → (∀ a ∈ as, om a = j) → Own K G H v mo as → Own K G (upd H p o) v mo as := fun {j v mo as} nj hj ow =>
    ow.keep (Same.refl _) (fun a ha => (ow.live a ha).2) fun a ha x hx => by
      have : a ≠ p := fun z => nj (by rw [← hj a ha, z, o1])
      rw [upd_ne this]; exact hx
  refine ⟨⟨g.gf.g0, fun a x e => ?_, g.gf.nf, fun a o h4 h5 => ?_, fun a h => ?_⟩, by rw [List.length_set, g.len], ⟨om, fun j sv e => ?_⟩, fun i0 mo hm e => ?_⟩
  · have : a ≠ p := fun z => by rw [z, q3] at e; cases e
    rw [upd_ne this]; exact g.gf.gh a x e
  · have : a ≠ p := fun z => by
      subst z
      rcases o2 with z | z
      · exact h5 z
      · rw [z] at h4; cases h4
    rw [upd_ne this]; exact g.gf.pres a o h4 h5
  · by_cases q : a = p
    · subst q; rw [upd_same]; exact fun z => by cases z
    · rw [upd_ne q]; exact g.gf.live a h
  · by_cases q : i = j
    · subst q
      rw [List.getElem?_set_self hi] at e
      cases e
      exact ⟨.ref p, [p], hs, ow, fun a ha => h3 a ha⟩
    · rw [List.getElem?_set_ne q] at e
      have z := s j sv e
      cases sv with
      | un => trivial
      | dat d => exact z
      | own mo =>
        obtain ⟨v, as, h1, h2, h3⟩ := z
        exact ⟨v, as, h1, keep (Ne.symm q) (fun a ha => (h3 a ha).1) h2, h3⟩
  · by_cases q : i = i0
    · subst q
      rw [List.getElem?_set_self hi] at e
      cases e
      have hm' : (MO.iv c kvs).pinS i := hm.elim (fun h => .inl ⟨h.1, rfl⟩) fun h => nomatch h.2
      obtain ⟨r1, r2⟩ := g.pin i _ hm' he
      rw [hs] at r1
      have r1' : F.p0 i = .ref p := by injection (Option.some.inj r1).symm
      refine ⟨hs.trans r1, ?_⟩
      rw [r1'] at r2 ⊢
      have : F.as0 i = [p] := by obtain ⟨p', dx', fs', k1, k2, _⟩ := r2; cases k1; exact k2
      rw [this]
      exact ow
    · rw [List.getElem?_set_ne q] at e
      obtain ⟨r1, r2⟩ := g.pin i0 mo hm e
      refine ⟨r1, ?_⟩
      have z := s i0 _ e
      obtain ⟨v, as, h1, h2, h3⟩ := z
      rw [r1] at h1; cases h1
      obtain rfl := h2.inj r2
      exact keep (Ne.symm q) (fun a ha => (h3 a ha).1) r2
theorem ss_putF {E : XK} {i : Nat} {c f : Str} {tv : TE} {m : Em} (hc : Cls K (He.ga K c)) (hn : NoAttr K (He.ga K c) f) (h1 : SE K mg (fun _ => E) tv m) : SS K mg E (sFld K (tVar i) tv f) (mPutF i c f m) := by
  refine ⟨fun F σ en G H D g h => ?_⟩
  show tv σ H _
  refine se_bind h1 g (poS_err) id h fun d en1 v G1 H1 p1 g1 s1 d1 => ?_
  dsimp only at p1
  cases e : ivAt en1 i with
  | none => rw [e] at p1; exact p1.elim
  | some z =>
    obtain ⟨c', kvs⟩ := z
    simp only [e] at p1
    by_cases hq : c' = c ∧ kvs.length < 1000
    · rw [if_pos hq] at p1
      obtain ⟨rfl, hl⟩ := hq
      have e1 := ivAt_some e
      obtain ⟨u, as, hv, ow, _⟩ := g1.ownM e1
      obtain ⟨p, dx, fs, rfl, rfl, q3, q4, q5⟩ := ow
      refine ⟨.ref p, hv, p, _, dx, fs, rfl, q4, hc, hn, by rw [dpk_len q5]; exact hl, ?_⟩
      exact p1 σ G1 _ (g1.mutV e1 hv ⟨p, dx, putF f v fs, rfl, rfl, q3, upd_same, dpk_put d1 q5⟩) s1
    · rw [if_neg hq] at p1; exact p1.elim
def tMakeG (C : Addr) (sp : Sp) (E : L2.St → XK) (t : TA) : TE := fun σ H Q => t σ H fun vs H1 => ∀ x dx, H1 x = none → H1 dx = none → dx ≠ x →
  sp (.ref x :: vs) (upd (upd H1 dx (.own x)) x (.ins C dx [])) (fun v H2 => v = .non ∧ Q (.ref x) H2) (E σ)
def eMake (c : Str) (M : List D → Rs (List (D × D))) (a : Am) : Em := fun en => (a en).bind fun p => (M p.1).bind fun kvs => .ok (.dict ((.str c, .none) :: kvs), p.2)
/-- what a def changed that no slot owns -/
theorem Gd.growZ {v : V} {as : List Addr} (g : Gd K F G H σ en) (f : Gf (FS G H v as) G' H') (fr : ∀ a ∈ as, Free K G H σ en a ∧ F.H0 a = none) : Gd K F G' H' σ en ∧ ∀ q, Free K G H σ en q → Free K G' H' σ en q := by
  have keep : ∀ {i : Nat} {mo : MO} {u : V} {bs : List Addr}, en[i]? = some (SV.own mo) → σ[i]? = some (some u) → Own K G H u mo bs → Own K G' H' u mo bs := fun {i mo u bs} e1 e2 o =>
    o.keep f.g0 (fun a ha => f.nf a (o.live a ha).1 (o.live a ha).2 fun z => (fr a z).1 _ _ _ _ e1 e2 o ha) fun a ha x hx => f.pres a x hx fun z => (fr a z).1 _ _ _ _ e1 e2 o ha
  obtain ⟨om, s⟩ := g.sat
  refine ⟨⟨g.gf.comp f rfl rfl (fun a z => .inr (fr a z).2), g.len, ⟨om, fun i sv e => ?_⟩, fun i0 mo hm e => ?_⟩, fun q hq => Free.keep (mo := .lst []) g keep hq⟩
  · have q := s i sv e
    cases sv with
    | un => trivial
    | dat d => obtain ⟨v, h1, h2⟩ := q; exact ⟨v, h1, dp_mono f.g0 d v h2⟩
    | own mo => obtain ⟨v, as, h1, h2, h3⟩ := q; exact ⟨v, as, h1, keep e h1 h2, h3⟩
  · obtain ⟨h1, h2⟩ := g.pin i0 mo hm e
    exact ⟨h1, keep e h1 h2⟩
theorem se_make {c : Str} {M : List D → Rs (List (D × D))} {ta : TA} {a : Am} (hk : InsOk K (He.ga K c)) (h1 : SA K mg E ta a) : SE K mg E (tMakeG (He.ga K c) (spV K mg c M) E ta) (eMake c M a) := by
  refine ⟨fun F σ en G H Q g h => ?_⟩
  show ta σ H _
  refine sa_bind h1 g poE_err id h fun ds en1 vs G1 H1 p1 g1 s1 d1 x dx hx hdx hne => ?_
  have hg : G1 x = none := Same.free g1.gf.gh hx
  have f1 := gf0_new (o := .own x) g1.gf.gh hdx
  have hx1 : upd H1 dx (.own x) x = none := by rw [upd_ne (Ne.symm hne)]; exact hx
  have f2 := gf0_new (o := .ins (He.ga K c) dx []) f1.gh hx1
  have g2 : Gd K F G1 (upd (upd H1 dx (.own x)) x (.ins (He.ga K c) dx [])) σ en1 := (g1.grow f1).grow f2
  have fr : Free K G1 (upd (upd H1 dx (.own x)) x (.ins (He.ga K c) dx [])) σ en1 x := free_new g1 hx (gf0_trans f1 f2)
  have h0 : F.H0 x = none := h0_new g1 hx
  refine ⟨G1, x, dx, vs, ds, rfl, f2.gh, hg, upd_same, d1, ?_⟩
  have p1' : PoE K mg (E σ) F σ G Q ((M ds).bind fun kvs => .ok (.dict ((.str c, .none) :: kvs), en1)) := p1
  cases q : M ds with
  | stk => rw [q] at p1'; exact p1'.elim
  | err z fs =>
    rw [q] at p1'
    exact fun cls dx' H' e => p1' cls dx' H' (ErrAt.back (F' := FS G1 _ (.ref x) [x]) g2.gf rfl rfl (fun b hb => .inr (by
      have hb' : b ∈ [x] := hb
      have : b = x := by simpa using hb'
      rw [this]; exact h0)) e)
  | ok kvs =>
    rw [q] at p1'
    intro G' H' f ow
    refine ⟨rfl, ?_⟩
    obtain ⟨g3, k3⟩ := g2.growZ f fun b hb => by
      have : b = x := by simpa using hb
      rw [this]; exact ⟨fr, h0⟩
    obtain ⟨x', dx', fs, e1, _, e3, e4, e5⟩ := ow
    cases e1
    have g4 := g3.adopt e3 e4 (.inr h0) (k3 x fr)
    exact p1' (.ref x) _ H' g4 ((s1.trans f.g0).trans (same_upd e3)) (.ins upd_same hk (dpk_mono (same_upd e3) e5))
end
/-- the class may be called -/
structure CalI [CxK] (P : Program) (w : World) (K : PySem.W.Frag) (mg : Str → Option Value) (base : Heap) (k : Nat) (c : Str) (d : He.DefD) (ps : List Str) (sp : Sp) : Prop where
  ex : ∃ fd, FunD K d.name d.qual d.params d.body d.scope [] [] (He.fAd K d.at_) fd ∧ FnG P w K mg base (CxK.cx P w) k (He.fAd K d.at_) fd ps sp ∧ Binds K fd ps []
  make : Mk K (He.ga K c) (He.fAd K d.at_)
  glo : mg c = some (.ref (He.ga K c))
section
variable {X : Cx} {j k : Nat} {c : Str} {d : He.DefD} {ps : List Str} {sp : Sp} {E : L2.St → XK} {p pos : Pos} {e : Expr} {es : List Expr} {t : TA}
variable {P : Program} {w : World} {K : PySem.W.Frag} {mg : Str → Option Value} {base : Heap}
theorem go_make [CxK] {f C : Addr} {fd : FuncData} {pins : List (Addr × Obj)} {σ : L2.St} {H : Hp} {s : Shared} {Q : VK} {us : List Value} {vs : List V} (M : Mk X.K C f) (F : FnG X.prog X.w X.K X.mg X.base (CxK.cx X.prog X.w) k f fd ps sp) (hgd : X.A.guards = some []) (hr : Room (k + 1) X.A) (hb : Binds X.K fd ps [])
    (hx : PassesAt (CxK.cx X.prog X.w) X σ (E σ)) (I : Inv X pins σ H s) (r : Vals vs us)
    (h : ∀ x dx, H x = none → H dx = none → dx ≠ x → sp (.ref x :: vs) (upd (upd H dx (.own x)) x (.ins C dx [])) (fun v H2 => v = .non ∧ Q (.ref x) H2) (E σ)) :
    wpAny (model X.prog X.w) X.A (call (.ref C) us) (EP X pins σ Q) X.xe s := by
  have hq := h (s.heap.objs.size + 1) s.heap.objs.size (I.hok.fresh (Nat.le_succ _)) (I.hok.fresh (Nat.le_refl _)) (Nat.ne_of_lt (Nat.lt_succ_self _))
  have I2 := Inv.made (C := C) I
  have r2 : Vals (V.ref (s.heap.objs.size + 1) :: vs) (Value.ref (s.heap.objs.size + 1) :: us) := .cons rfl r
  have hl : ((Value.ref (s.heap.objs.size + 1) :: us) ++ []).length = ps.length := by
    have e := r2.length
    rw [F.size _ _ _ _ hq] at e
    rw [List.append_nil]
    exact e.symm
  have b := hb _ (Value.ref (s.heap.objs.size + 1) :: us) I2.kIn hl
  rw [List.append_nil] at b
  refine wpAny_call (make_map (f := f) I.kIn M.makes M.init (beq_iff_eq.mp M.fn) (codeAny_mono (F.go (X.A.under (.builtin "type.__call__" ⟨.ref C :: us, []⟩)) X.stack _ _ ⟨Value.ref (s.heap.objs.size + 1) :: us, []⟩ (Value.ref (s.heap.objs.size + 1) :: us) _ _ (E σ) ?_ (hr.make C us [])
    (I2.env0.make C us []) b r2 hq) fun r s' hq' => ?_))
  · exact hgd
  cases r with
  | error e => exact hx pins _ _ e s' I2 hq'
  | ok fl =>
    cases fl with
    | ret u =>
      obtain ⟨v, H', I3, rv, ev, q3⟩ := I2.after hq'
      subst ev
      exact ⟨rv, ⟨V.ref (s.heap.objs.size + 1), H', I3, rfl, q3⟩⟩
    | next => exact False.elim hq'
    | brk => exact False.elim hq'
    | cont => exact False.elim hq'
theorem pe_makeX [CxK] (ci : CalI X.prog X.w X.K X.mg X.base k c d ps sp) (hgd : X.A.guards = some []) (hr : Room j X.A) (hk : k + 1 ≤ j) (hx : ∀ σ, PassesAt (CxK.cx X.prog X.w) X σ (E σ)) (ha : PA X (e :: es) t) (hg : Gl X c := by rfl) (hdb : (c == ("__debug__" : Str)) = false := by decide)
    (he : starEach (e :: es) X.env = (false, eval e X.env) :: starEach es X.env := by rfl) (hpl : (backTo pos (starEach es X.env)).any (·.1) = false := by rfl) : PE X (.Call (.Name c p) (e :: es) [] pos) (tMakeG (He.ga X.K c) sp E t) := by
  obtain ⟨fd, F, Fn, B⟩ := ci.ex
  refine ⟨fun pins s σ H Q I h => ?_⟩
  refine wpAny_Call_Name_kw (ld_glob I hg ci.glo ?_ hdb)
  refine PySem.W.callWith_K (h₀ := X.base) I.ok.mod.kin ci.make.kp (thn (ha.run pos pins s σ H _ I h) fun us s1 ⟨vs, H1, I1, r, q⟩ => ⟨I1.kIn, ?_⟩) he hpl
  exact go_make ci.make Fn hgd (hr.mono hk) B (hx σ) I1 r q
theorem pe_makeG [CxK] (ci : CalI P w K mg base k c d ps sp) (hgd : X.A.guards = some []) (hr : Room j X.A) (hk : k + 1 ≤ j) (hx : ∀ σ, PassesAt (CxK.cx X.prog X.w) X σ (E σ)) (ha : PA X (e :: es) t)
    (z1 : X.prog = P := by rfl) (z2 : X.w = w := by rfl) (z3 : X.K = K := by rfl) (z4 : X.mg = mg := by rfl) (z5 : X.base = base := by rfl) (hg : Gl X c := by rfl) (hdb : (c == ("__debug__" : Str)) = false := by decide)
    (he : starEach (e :: es) X.env = (false, eval e X.env) :: starEach es X.env := by rfl) (hpl : (backTo pos (starEach es X.env)).any (·.1) = false := by rfl) : PE X (.Call (.Name c p) (e :: es) [] pos) (tMakeG (He.ga K c) sp E t) := by
  subst z1 z2 z3 z4 z5
  exact pe_makeX ci hgd hr hk hx ha hg hdb he hpl
end
def insY (c : Str) : YesNo := fun K => decide (PySem.W.findIn K (.ref (He.ga K c)) "__class__" = some (some (.builtin "object.__class__"))) && (decide (PySem.W.specialIn K (.builtin "object.__class__") "__get__" = some (some (.builtin "getset_descriptor.__get__"))) &&
  (decide (PySem.W.takesIn K (.builtin "object.__class__") = some true) && (decide (PySem.W.mroIn K (He.ga K c) (.type "object") = some true) &&
  ["int", "bool", "tuple", "list", "str"].all fun t => decide (PySem.W.kitOne K (.ref (He.ga K c)) (.type t) = some false))))
theorem insOk_of {K : PySem.W.Frag} {c : Str} (cl : Cls K (He.ga K c)) (h : insY c K = true) : InsOk K (He.ga K c) := by
  unfold insY at h
  rw [Bool.and_eq_true, Bool.and_eq_true, Bool.and_eq_true, Bool.and_eq_true] at h
  obtain ⟨h1, h2, h3, h4, h5⟩ := h
  exact ⟨cl, of_decide_eq_true h1, of_decide_eq_true h2, of_decide_eq_true h3, of_decide_eq_true h4, fun t ht => of_decide_eq_true (List.all_eq_true.mp h5 t ht)⟩
end Mir
end
section
set_option Elab.async false
set_option linter.all false
set_option maxRecDepth 100000
set_option maxHeartbeats 4000000
namespace Mir
open PySem PySem.Spec PyProof.Rows L2
end Mir
end
section
set_option Elab.async false
set_option linter.all false
set_option maxRecDepth 100000
set_option maxHeartbeats 4000000
namespace Mir
open PySem PySem.Spec PyProof.Rows L2
def lkS : List (Str × Int) → Str → Option Int
  | [], _ => none
  | (k, i) :: r, z => if k = z then some i else lkS r z
theorem lkS_mem : ∀ {kvs : List (Str × Int)} {z : Str} {i : Int}, lkS kvs z = some i → (z, i) ∈ kvs
  | [], _, _, h => by cases h
  | (k, j) :: r, z, i, h => by
    unfold lkS at h
    by_cases q : k = z
    · rw [if_pos q] at h
      cases h
      rw [q]
      exact List.mem_cons_self ..
    · rw [if_neg q] at h
      exact List.mem_cons_of_mem _ (lkS_mem h)
theorem lkS_none : ∀ {kvs : List (Str × Int)} {z : Str}, lkS kvs z = none → ∀ k ∈ kvs.map (·.1), k ≠ z
  | [], _, _, _, h => by cases h
  | (k, j) :: r, z, h, x, hx => by
    unfold lkS at h
    by_cases q : k = z
    · rw [if_pos q] at h; cases h
    · rw [if_neg q] at h
      rcases List.mem_cons.mp (show x ∈ k :: r.map (·.1) from hx) with e | e
      · rw [e]; exact q
      · exact lkS_none h x e
/-- the table at the top's name x -/
structure TabK (K : PySem.W.Frag) (w : World) (x : Str) (kvs : List (Str × Int)) : Prop where
  keys : He.dicW K (He.ga K x) = some (He.keysIn w.params (kvs.map (·.1)))
  vals : He.valsB K (He.ga K x) (kvs.map fun p => (p.1, He.Dv.int p.2)) = true
theorem keyOf_no {P : Params} : ∀ {l : List DictEntry} {ks : List Str} {z : Str}, l.map He.keyOf = He.keysIn P ks → (∀ k ∈ ks, k ≠ z) → l.find? (fun e => e.key.isStr z) = none ∧ l.any (fun e => e.refKey) = false
  | [], _, _, _, _ => ⟨rfl, rfl⟩
  | e :: r, [], _, h, _ => by cases h
  | e :: r, k :: ks, z, h, hk => by
    have h1 : He.keyOf e :: r.map He.keyOf = some (k, PyData.keyHash P k) :: He.keysIn P ks := h
    injection h1 with h2 h3
    obtain ⟨a, b⟩ := keyOf_no (z := z) h3 fun y hy => hk y (List.mem_cons_of_mem _ hy)
    have hz := hk k (List.mem_cons_self ..)
    unfold He.keyOf at h2
    split at h2
    · rename_i x t q
      have h4 := Option.some.inj h2
      obtain ⟨h5, h6⟩ := Prod.mk.inj h4
      subst h5
      refine ⟨?_, ?_⟩
      · rw [List.find?_cons, q]
        have : Value.isStr (.str x t) z = false := by
          show (x == z) = false
          simpa using hz
        rw [this]
        exact a
      · rw [List.any_cons, b, Bool.or_false]
        unfold DictEntry.refKey
        rw [q]
    · cases h2
theorem TabK.get {K : PySem.W.Frag} {w : World} {x : Str} {kvs : List (Str × Int)} (h : TabK K w x kvs) : ∃ es n, KDict K w (He.ga K x) es n ∧ ∀ z, match lkS kvs z with
    | some i => ∃ u, PySem.W.nsIn K (He.ga K x) z = some (some u) ∧ RelV (.int i) u
    | none => PySem.W.nsIn K (He.ga K x) z = some none := by
  obtain ⟨es, n, D⟩ := He.dicW_ok h.keys
  refine ⟨es, n, D, fun z => ?_⟩
  cases e : lkS kvs z with
  | some i =>
    exact He.valsB_ok h.vals (q := (z, He.Dv.int i)) (List.mem_map.mpr ⟨(z, i), lkS_mem e, rfl⟩)
  | none =>
    have hk : es.toList.map He.keyOf = He.keysIn w.params (kvs.map (·.1)) := by
      have k := h.keys
      unfold He.dicW at k
      rw [D.at_] at k
      dsimp only at k
      split at k
      · exact Option.some.inj k
      · cases k
    obtain ⟨a, b⟩ := keyOf_no (z := z) hk (lkS_none e)
    show PySem.W.nsIn K (He.ga K x) z = some none
    unfold PySem.W.nsIn
    rw [D.at_]
    dsimp only
    rw [a]
    dsimp only
    rw [b]
    rfl
/-- what the walk takes of the top beside its defs -/
class Gx (ic : List (Str × Int)) (sc : List (Str × Str)) (tc : List (Str × List (Str × Int))) (K : PySem.W.Frag) (mg : Str → Option Value) (w : World) : Prop where
  ci : ∀ p ∈ ic, ∃ t, mg p.1 = some (.int p.2 t)
  cs : ∀ p ∈ sc, ∃ t, mg p.1 = some (.str p.2 t)
  tb : ∀ p ∈ tc, TabK K w p.1 p.2 ∧ mg p.1 = some (.ref (He.ga K p.1))
def tabY (x : Str) (kvs : List (Str × Int)) : YesNo := fun K => He.valsB K (He.ga K x) (kvs.map fun p => (p.1, He.Dv.int p.2))
theorem pe_gint {X : Cx} {x : Str} {i : Int} {pos : Pos} (hg : Gl X x) (hm : ∃ t, X.mg x = some (.int i t)) (hd : (x == ("__debug__" : Str)) = false := by decide) : PE X (.Name x pos) (tC (.int i)) := by
  obtain ⟨t, e⟩ := hm
  exact pe_glob hg e ⟨t, rfl⟩ hd
section
variable {K : PySem.W.Frag} {mg : Str → Option Value} {w : World} {E : L2.St → XK} {kvs : List (Str × Int)} {x : Str}
def rInTb (K : PySem.W.Frag) (a : Addr) (b : Bool) : R2 := fun x y H Q => ∃ (z : Str) (r : Option Value), x = .str z ∧ y = .ref a ∧ PySem.W.nsIn K a z = some r ∧ Q (.bl (b == r.isSome)) H
theorem op_notInTb {X : Cx} (h : TabK X.K X.w x kvs) : OpR X (compareOp .NotIn) (rInTb X.K (He.ga X.K x) false) := by
  obtain ⟨es, n, D, _⟩ := h.get
  intro pins s σ H a y v u Q I rx ry q
  obtain ⟨z, r, e1, e2, e3, q⟩ := q
  refine op_notIn_kd D pins s σ H a y v u Q I rx ry ⟨z, r, e1, e2, e3, ?_⟩
  have : (false == r.isSome) = !r.isSome := by cases r <;> rfl
  rw [this] at q
  exact q
/-- x in T, x not in T -/
def eInTb (b : Bool) (kvs : List (Str × Int)) (m : Em) : Em := fun en => (m en).bind fun p => match p.1 with
  | .str z => .ok (.bool (b == (lkS kvs z).isSome), p.2)
  | _ => .stk
theorem se_inTb {b : Bool} {te : TE} {m : Em} (h : TabK K w x kvs) (h1 : SE K mg E te m) : SE K mg E (tOp (rInTb K (He.ga K x) b) te (tC (.ref (He.ga K x)))) (eInTb b kvs m) := by
  obtain ⟨es, n, D, hz⟩ := h.get
  refine ⟨fun F σ en G H Q g h => ?_⟩
  show te σ H _
  refine se_bind h1 g poE_err id h fun d en1 v G1 H1 p1 g1 s1 d1 => ?_
  cases d with
  | str z =>
    cases d1
    have q := hz z
    refine ⟨z, ?_⟩
    cases e : lkS kvs z with
    | some i =>
      rw [e] at q
      obtain ⟨u, q1, q2⟩ := q
      refine ⟨some u, rfl, rfl, q1, ?_⟩
      have p1 : PoE K mg (E σ) F σ G Q (.ok (.bool (b == (lkS kvs z).isSome), en1)) := p1
      rw [e] at p1
      exact p1 _ G1 H1 g1 s1 (.bl _)
    | none =>
      rw [e] at q
      refine ⟨none, rfl, rfl, q, ?_⟩
      have p1 : PoE K mg (E σ) F σ G Q (.ok (.bool (b == (lkS kvs z).isSome), en1)) := p1
      rw [e] at p1
      exact p1 _ G1 H1 g1 s1 (.bl _)
  | _ => exact (show False from p1).elim
/-- T[x] -/
def eIxTb (kvs : List (Str × Int)) (m : Em) : Em := fun en => (m en).bind fun p => match p.1 with
  | .str z => match lkS kvs z with
    | some i => .ok (.int i, p.2)
    | none => .stk
  | _ => .stk
theorem se_ixTb {te : TE} {m : Em} (h : TabK K w x kvs) (h1 : SE K mg E te m) : SE K mg E (tOp (rIxD K w) (tC (.ref (He.ga K x))) te) (eIxTb kvs m) := by
  obtain ⟨es, n, D, hz⟩ := h.get
  refine ⟨fun F σ en G H Q g h => ?_⟩
  show te σ H _
  refine se_bind h1 g poE_err id h fun d en1 v G1 H1 p1 g1 s1 d1 => ?_
  cases d with
  | str z =>
    cases d1
    have q := hz z
    cases e : lkS kvs z with
    | some i =>
      rw [e] at q
      obtain ⟨u, q1, q2⟩ := q
      dsimp only at p1
      rw [e] at p1
      exact ⟨He.ga K x, z, .int i, rfl, rfl, ⟨es, n, u, D.at_, D.lit, q1, q2⟩, p1 _ G1 H1 g1 s1 (.int i)⟩
    | none =>
      dsimp only at p1
      rw [e] at p1
      exact p1.elim
  | _ => exact (show False from p1).elim
def eCon (c f : Str) (d : D) (m : Em) : Em := fun en => (m en).bind fun p => match insD c p.1 with
  | some kvs => match kvl f kvs with
    | some _ => .stk
    | none => .ok (d, p.2)
  | none => .stk
def conY (c f : Str) (i : Int) : YesNo := fun K => He.conB K c f (.int i)
theorem se_con {c f : Str} {i : Int} {u : Value} {te : TE} {m : Em} (hn : Con K (He.ga K c) f (.int i) u) (h1 : SE K mg E te m) : SE K mg E (tCon K te f) (eCon c f (.int i) m) := by
  refine ⟨fun F σ en G H Q g h => ?_⟩
  show te σ H _
  refine se_bind h1 g poE_err id h fun d en1 v G1 H1 p1 g1 s1 d1 => ?_
  dsimp only at p1
  cases e : insD c d with
  | none => rw [e] at p1; exact p1.elim
  | some kvs =>
    rw [e] at p1
    obtain ⟨a, dx, fs, rfl, h2, h3, h4⟩ := dp_ins d1 e
    cases e2 : kvl f kvs with
    | some z => simp only [e2] at p1; exact p1.elim
    | none =>
      simp only [e2] at p1
      exact ⟨a, _, dx, fs, .int i, u, rfl, g1.gf.gh _ _ h2, h3.cl, hn, dpk_no h4 e2, p1 _ G1 H1 g1 s1 (.int i)⟩
def rAddS : R2 := fun x y H Q => ∃ i j : Str, x = .str i ∧ y = .str j ∧ i.length + j.length ≤ sizeLine ∧ Q (.str (i ++ j)) H
theorem op_addS {X : Cx} : OpR X (binaryOp .Add) rAddS := op_add_str
def fAddS : D → D → Rs D
  | .str a, .str b => if a.length + b.length ≤ 1000 then .ok (.str (a ++ b)) else .stk
  | _, _ => .stk
theorem o_addS : O2 K rAddS fAddS := by
  refine ⟨fun G H x y d e z gh h1 h2 hf Q q => ?_⟩
  unfold fAddS at hf
  split at hf
  · split at hf
    · rename_i hl
      cases hf
      cases h1
      cases h2
      exact ⟨_, _, rfl, rfl, by rw [sizeLine_eq]; omega, q _ G H (gf_id gh) (.str _)⟩
    · cases hf
  · cases hf
def eUp (m : Em) : Em := fun en => (m en).bind fun p => match p.1 with
  | .str z => if z.length ≤ 1000 then .ok (.str (Txt.upper z), p.2) else .stk
  | _ => .stk
def tUp (to : TE) : TE := tM0 (fun x xs H Q => ∃ a, x = .str a ∧ xs = [] ∧ a.length ≤ 5592405 ∧ Q (.str (Txt.upper a)) H) to
theorem se_upper {te : TE} {m : Em} (h1 : SE K mg E te m) : SE K mg E (tUp te) (eUp m) := by
  refine ⟨fun F σ en G H Q g h => ?_⟩
  show te σ H _
  refine se_bind h1 g poE_err id h fun d en1 v G1 H1 p1 g1 s1 d1 => ?_
  cases d with
  | str z =>
    cases d1
    dsimp only at p1
    split at p1
    · rename_i hl
      exact ⟨⟨z, rfl⟩, z, rfl, rfl, by omega, p1 _ G1 H1 g1 s1 (.str _)⟩
    · exact p1.elim
  | _ => exact (show False from p1).elim
def gmCons (m : Gm) (r : List D → En → Rs En) : List D → En → Rs En
  | d :: ds, en => (m d en).bind fun en' => r ds en'
  | [], _ => .stk
def gmNil : List D → En → Rs En
  | [], en => .ok en
  | _ :: _, _ => .stk
def gmT (n : Nat) (r : List D → En → Rs En) : Gm := fun d en => match d with
  | .tuple ds => if ds.length = n then r ds en else .stk
  | _ => .stk
structure SGm (K : PySem.W.Frag) (js : List Nat) (g : TGs) (r : List D → En → Rs En) : Prop where
  run : ∀ F σ en G H vs ds Q, Gd K F G H σ en → DpAll K G vs ds → (match r ds en with
    | .ok en' => ∀ σ', σ'.length = σ.length → (∀ k, k ∉ js → σ'[k]? = σ[k]?) → Gd K F G H σ' en' → Q σ' H
    | _ => False) → g vs σ H Q
theorem sgm_nil : SGm K [] gNil gmNil := by
  refine ⟨fun F σ en G H vs ds Q g hd h => ?_⟩
  cases hd with
  | nil => exact ⟨rfl, h σ rfl (fun _ _ => rfl) g⟩
  | cons _ _ => exact (show False from h).elim
theorem sgm_cons {js ks : List Nat} {g1 : TG} {gs : TGs} {m : Gm} {r : List D → En → Rs En} (h1 : SG K js g1 m) (h2 : SGm K ks gs r) : SGm K (js ++ ks) (gCons g1 gs) (gmCons m r) := by
  refine ⟨fun F σ en G H vs ds Q g hd h => ?_⟩
  cases hd with
  | nil => exact (show False from h).elim
  | @cons v vs d ds h3 h4 =>
    refine ⟨v, vs, rfl, ?_⟩
    refine h1.run F σ en G H v d _ g h3 ?_
    have h' : (match (m d en).bind fun en' => r ds en' with
      | .ok en' => ∀ σ', σ'.length = σ.length → (∀ k, k ∉ js ++ ks → σ'[k]? = σ[k]?) → Gd K F G H σ' en' → Q σ' H
      | _ => False) := h
    cases e : m d en with
    | err c fs => rw [e] at h'; exact h'.elim
    | stk => rw [e] at h'; exact h'.elim
    | ok en1 =>
      rw [e] at h'
      intro σ1 l1 k1 gd1
      refine h2.run F σ1 en1 G H vs ds Q gd1 h4 ?_
      have h' : (match r ds en1 with
        | .ok en' => ∀ σ', σ'.length = σ.length → (∀ k, k ∉ js ++ ks → σ'[k]? = σ[k]?) → Gd K F G H σ' en' → Q σ' H
        | _ => False) := h'
      revert h'
      cases r ds en1 with
      | ok en' => exact fun h' σ' hl hk g' => h' σ' (hl.trans l1) (fun k hk' => by
          rw [hk k (fun z => hk' (List.mem_append_right _ z)), k1 k (fun z => hk' (List.mem_append_left _ z))]) g'
      | err c fs => exact id
      | stk => exact id
theorem sgm_tup {js : List Nat} {gs : TGs} {n : Nat} {r : List D → En → Rs En} (h2 : SGm K js gs r) : SG K js (gTup K n gs) (gmT n r) := by
  refine ⟨fun F σ en G H v d Q g hd h => ?_⟩
  unfold gmT at h
  split at h
  · rename_i dd en' e
    split at e
    · rename_i ds
      split at e
      · rename_i hl
        cases hd with
        | @tup a xs _ hs ha =>
          refine ⟨a, xs, rfl, seqT_mono g.gf.gh hs, ?_, ?_⟩
          · rw [← hl, dpa_len ha]
          · exact h2.run F σ en G H xs ds Q g ha (by rw [e]; exact h)
      · cases e
    · cases e
  · exact h.elim
end
end Mir
end
section
set_option Elab.async false
set_option linter.all false
set_option maxRecDepth 100000
set_option maxHeartbeats 4000000
namespace Mir
open PySem PySem.Spec PyProof.Rows L2
abbrev HdT := Value × Nat × (Addr → Value → Option Addr → TS)
def wAll (K : PySem.W.Frag) (Wout : WX) (D : Ends) : List HdT → WX
  | [] => Wout
  | (c, i, ts) :: l => wAs K c i ts (wAll K Wout D l) D
section
variable {K : PySem.W.Frag} {mg : Str → Option Value} {E : XK}
structure SXT (K : PySem.W.Frag) (i : Nat) (a C dd : Addr) (ts : TS) (m : List (Str × D) → Rs D) : Prop where
  run : ∀ σ G H xs fs z (D0 : Ends), Same G H → σ[i]? = some (some (.ref a)) → H dd = some (.xd xs) → FsOk K G xs fs → m fs = .ok z → (∀ v G' H', Gf (F0 G H) G' H' → Dp K G' v z → D0.rt v H') → ts D0 σ H
theorem sxt_ret {i : Nat} {a C dd : Addr} {te : TE} {m : List (Str × D) → Rs D} (h : SX K i a C dd te m) : SXT K i a C dd (tRet te) m := ⟨fun σ G H xs fs z D0 gh hi hd ok e q => h.run σ G H xs fs z _ gh hi hd ok e q⟩
abbrev HdM := List (Str × Bool) × (List (Str × D) → Rs D)
def pickH : List HdM → Str → List (Str × D) → Rs D
  | [], _, _ => .stk
  | (cs, hm) :: r, c, fs => if (c, true) ∈ cs then hm fs else if (c, false) ∈ cs then pickH r c fs else .stk
end
end Mir
end
section
set_option Elab.async false
set_option linter.all false
set_option maxRecDepth 100000
set_option maxHeartbeats 4000000
namespace Mir
open PySem PySem.Spec PyProof.Rows L2
abbrev fPow := fI2c (fun i j => decide (0 ≤ j) && (decide (j ≤ 1000000) && decide (i.natAbs < 2 ^ 64))) fun i j => .int (i ^ j.toNat)
theorem o_pow {K : PySem.W.Frag} : O2 K (rI CPow fun i j => .int (i ^ j.toNat)) fPow := o2_Ic fun i j h => by
  have h' : (decide (0 ≤ j) && (decide (j ≤ 1000000) && decide (i.natAbs < 2 ^ 64))) = true := h
  rw [Bool.and_eq_true, Bool.and_eq_true] at h'
  exact ⟨of_decide_eq_true h'.1, of_decide_eq_true h'.2.1, of_decide_eq_true h'.2.2⟩
end Mir
end
section
set_option Elab.async false
set_option linter.all false
set_option maxRecDepth 100000
set_option maxHeartbeats 4000000
namespace Mir
open PySem PySem.Spec PyProof.Rows L2
end Mir
end
section
set_option Elab.async false
set_option linter.all false
set_option maxRecDepth 100000
set_option maxHeartbeats 4000000
namespace Mir
open PySem PySem.Spec PyProof.Rows L2
open PySem.W (EachIs)
section
variable {P : Program} {w : World} {A : Around} {E : Value → Shared → Prop} {s : Shared}
structure SetF (P : Program) (w : World) (h : Heap) (a : Addr) (L : List (Addr × List Int)) : Prop where
  ex : ∃ (es : Array (Int × Value)) (ep : Nat) (t : SetTable), (∃ o, h.get? a = some o ∧ o.ExactSet ∧ o.data = .set es ep t) ∧ es.toList = rowsOf P w L ∧ t.fits es.size = true ∧ Ris t.place.toList ∧ (w.params.followText "set-order" = true ∨ t.led = true)
  nd : (L.map (·.2)).Nodup
  tup : ∀ p ∈ L, IsT P w h p.2 p.1
  few : L.length ≤ 64
def Bag (P : Program) (w : World) (h : Heap) (a : Addr) (L : List (Addr × List Int)) : Prop := (∃ es ep t, SetTR P w h a L es ep t) ∨ (L.length = 64 ∧ SetF P w h a L)
theorem SetF.keep {h h' : Heap} {a : Addr} {L : List (Addr × List Int)} (F : SetF P w h a L) (ha : ∀ o, h.get? a = some o → h'.get? a = some o) (ht : ∀ p ∈ L, IsT P w h' p.2 p.1) : SetF P w h' a L := by
  obtain ⟨es, ep, t, ⟨o, ho, r⟩, q⟩ := F.ex
  exact ⟨⟨es, ep, t, ⟨o, ha o ho, r⟩, q⟩, F.nd, ht, F.few⟩
theorem Bag.keep {h h' : Heap} {a : Addr} {L : List (Addr × List Int)} (F : Bag P w h a L) (ha : ∀ o, h.get? a = some o → h'.get? a = some o) (ht : ∀ p ∈ L, IsT P w h' p.2 p.1) : Bag P w h' a L := by
  rcases F with ⟨es, ep, t, R⟩ | ⟨e, F⟩
  · exact .inl ⟨es, ep, t, R.keep ha ht⟩
  · exact .inr ⟨e, F.keep ha ht⟩
end
end Mir
end
section
set_option Elab.async false
set_option linter.all false
set_option maxRecDepth 100000
set_option maxHeartbeats 4000000
namespace Mir
open PySem PySem.Spec PyProof.Rows L2
open PySem.W (EachIs)
theorem vals_ints : ∀ {ns : List Int} {us : List Value}, IntsAre us ns → Vals (ns.map V.int) us
  | _, _, .nil => .nil
  | _, _, .cons n t r => .cons ⟨t, rfl⟩ (vals_ints r)
end Mir
end
section
set_option Elab.async false
set_option linter.all false
set_option maxRecDepth 100000
set_option maxHeartbeats 4000000
namespace Mir
open PySem PySem.Spec PyProof.Rows L2
end Mir
end
section
set_option Elab.async false
set_option linter.all false
set_option maxRecDepth 100000
set_option maxHeartbeats 4000000
namespace Mir
open PySem PySem.Spec PyProof.Rows L2
section
variable {X : Cx} {j k : Nat} {d : He.DefD} {ps : List Str} {sp : Sp} {E : L2.St → XK} {p pos : Pos}
variable {P : Program} {w : World} {K : PySem.W.Frag} {mg : Str → Option Value} {base : Heap}
theorem pe_calEX [CxK] (c : CalG X.prog X.w X.K X.mg X.base k d ps sp) (hgd : X.A.guards = some []) (hr : Room j X.A) (hk : k ≤ j) (hx : ∀ σ, PassesAt (CxK.cx X.prog X.w) X σ (E σ)) (hg : Gl X d.name := by rfl) (hdb : (d.name == ("__debug__" : Str)) = false := by decide) :
    PE X (.Call (.Name d.name p) [] [] pos) (tCallG sp E tNil) := by
  obtain ⟨fd, F, Fn, B⟩ := c.ex
  refine ⟨fun pins s σ H Q I h => ?_⟩
  refine wpAny_Call_Name_kw (ld_glob I hg c.glo ?_ hdb)
  exact PySem.W.callWith_K0 I.kIn F.kp (go_fn (us := []) (vs := []) Fn hgd (hr.mono hk) B (hx σ) I .nil h)
theorem pe_calE [CxK] (c : CalG P w K mg base k d ps sp) (hgd : X.A.guards = some []) (hr : Room j X.A) (hk : k ≤ j) (hx : ∀ σ, PassesAt (CxK.cx X.prog X.w) X σ (E σ))
    (z1 : X.prog = P := by rfl) (z2 : X.w = w := by rfl) (z3 : X.K = K := by rfl) (z4 : X.mg = mg := by rfl) (z5 : X.base = base := by rfl) (hg : Gl X d.name := by rfl) (hdb : (d.name == ("__debug__" : Str)) = false := by decide) :
    PE X (.Call (.Name d.name p) [] [] pos) (tCallG sp E tNil) := by
  subst z1 z2 z3 z4 z5
  exact pe_calEX c hgd hr hk hx hg hdb
end
end Mir
end
section
set_option Elab.async false
set_option linter.all false
set_option maxRecDepth 100000
set_option maxHeartbeats 4000000
namespace Mir
open PySem PySem.Spec PyProof.Rows L2
instance instCxN : CxK where
  cx := L2N.CX
  no := fun _ _ _ _ _ _ _ ⟨_, _, _, _, _, _, _, _, _, _, _, _, z⟩ => z
theorem passEN {X : Cx} {E : XK} (tk : L2N.Takes X (fun cls d _ H => E cls d H)) (σ : L2.St) : PassesAt (CxK.cx X.prog X.w) X σ E := L2N.passAt tk σ
theorem mk_endN {X : Cx} {pins : List (Addr × Obj)} {σ : L2.St} {H1 H2 : Hp} {Q : XK} {hp hp2 h2 : Heap} {g1 g2 : Array GenState} {d1 d2 : Drawn} {t1 t2 : Nat} {os1 os2 : OsState} {a C d : Addr} {fs : List (Str × V)} (T : Raises X (.ref C)) (I1 : Inv X pins σ H1 ⟨hp, g1, d1, t1, os1⟩)
    (ha : hp.objs.size ≤ a) (k : ∀ b o, hp.get? b = some o → hp2.get? b = some o) (un : Un (frs X.stack) [] (upd H1 a (exo a C none)) H2 hp2 h2) (hok : HOk X.prog X.w H2 h2) (ho : os2 = os1) (hb : AllBare g2)
    (ea : H2 a = some (exo a C (some d))) (ed : H2 d = some (exd d fs)) (hd1 : H1 d = none) (q : Q (.ref C) (some d) (upd (del H2 a) d (.xd fs))) : L2N.MkP X pins σ Q (.ref a) ⟨h2, g2, d2, t2, os2⟩ := by
  obtain ⟨t0, G, J, kG, ge, hoe, na⟩ := mk_end0 (d2 := d2) (t2 := t2) I1 ha k un hok ho hb ea ed hd1
  exact ⟨a, _, _, ⟨G, g2, d2, t2, os2⟩, _, .ref C, some d, rfl, J, kG, ge, hoe, ⟨rfl, rfl, fun vs hv => by cases hv; rfl⟩, rfl, rfl, na, rfl, hb, T, q⟩
theorem pmk_oexN {X : Cx} {CX : CXT} {x : Str} {C fI : Addr} {k : Nat} {fd : FuncData} {ps : List Str} {sp : Sp} {e : Expr} {es : List Expr} {ta : TA} {p pos : Pos} (T : OexC X.K C) (iC : PySem.W.findIn X.K (.ref C) "__init__" = some (some (.ref fI))) (tI : PySem.W.typeIn X.K (.ref fI) = some (.type "function"))
    (F1 : FnOk X.prog X.w X.K X.mg X.base CX k fI fd ps sp) (hr : Room (k + 1) X.A) (hb : Binds X.K fd ps []) (hx : Passes CX X (fun _ _ _ => False)) (hg : Gl X x) (hm : X.mg x = some (.ref C)) (ha : PA X (e :: es) ta)
    (hdb : (x == ("__debug__" : Str)) = false := by decide) (he : starEach (e :: es) X.env = (false, eval e X.env) :: starEach es X.env := by rfl) (hpl : (backTo pos (starEach es X.env)).any (·.1) = false := by rfl) :
    L2N.PMk X (.Call (.Name x p) (e :: es) [] pos) (tMkO C sp [] ta) := by
  intro pins s σ H Q I h
  obtain ⟨nm, q, N, bs, bm, sn, sub, ab, col, dd, k0, k1, k2, k3, k5, hC, hbm⟩ := T.cls
  refine wpAny_Call_Name_kw (ld_glob I hg hm ?_ hdb)
  refine PySem.W.callWith_K (h₀ := X.base) I.ok.mod.kin T.kC (thn (ha.run pos pins s σ H _ I h) fun us s1 ⟨vs, H1, I1, r1, hz, q1⟩ => ⟨I1.kIn, ?_⟩) he hpl
  show wpAny _ _ (call (.ref C) us) _ _ _
  obtain ⟨hp, g, dr, tk, os⟩ := s1
  have hsz : hp.objs.size ≤ hp.objs.size + 1 := Nat.le_succ _
  have hn : H1 (hp.objs.size + 1) = none := I1.hok.fresh hsz
  have hq := q1 (hp.objs.size + 1) hn
  rw [List.append_nil] at hq
  have kk : ∀ b o, hp.get? b = some o → ((hp.push (PySem.W.kdv_tup us)).push (PySem.HandSPX.excO C hp.objs.size)).get? b = some o := fun b o e => Heap.get?_push_of_some _ (Heap.get?_push_of_some _ e)
  have hget : ((hp.push (PySem.W.kdv_tup us)).push (PySem.HandSPX.excO C hp.objs.size)).get? (hp.objs.size + 1) = some (PySem.HandSPX.excO C hp.objs.size) := by heap_get
  have I2 : Inv X pins σ (upd H1 (hp.objs.size + 1) (exo (hp.objs.size + 1) C none)) ⟨(hp.push (PySem.W.kdv_tup us)).push (PySem.HandSPX.excO C hp.objs.size), g, dr, tk, os⟩ :=
    I1.laid (t' := tk) (a := hp.objs.size + 1) (o := exo (hp.objs.size + 1) C none) (h' := (hp.push (PySem.W.kdv_tup us)).push (PySem.HandSPX.excO C hp.objs.size)) kk hsz (exo_ok hget)
  have r2 : Vals (V.ref (hp.objs.size + 1) :: vs) (Value.ref (hp.objs.size + 1) :: us) := .cons rfl r1
  have hl : (Value.ref (hp.objs.size + 1) :: us ++ []).length = ps.length := by
    have e := r2.length
    rw [F1.len _ _ _ _ hq] at e
    rw [List.append_nil]
    exact e.symm
  have b2 := hb _ (Value.ref (hp.objs.size + 1) :: us) I2.kIn hl
  rw [List.append_nil] at b2
  have hus : us.length ≤ sizeLine := by
    rw [← Paired.length r1, sizeLine_eq]
    omega
  refine wpAny_call (PySem.HandSPX.call_own F.excBase_ValueError (fun Y => PySem.HandSPX.refsVE_contains Y bm hbm) (I1.kIn _ _ hC) (PySem.W.looks_findIn I1.kIn iC) (fun self => PySem.W.bind_fn I1.kIn self tI) hus
    (codeAny_mono (F1.run _ X.stack _ _ ⟨Value.ref (hp.objs.size + 1) :: us, []⟩ (Value.ref (hp.objs.size + 1) :: us) _ _ (fun _ _ _ => False) (hr.make C us []) (I2.env0.make C us []) b2 r2 hq) fun r s' hq' => ?_))
  cases r with
  | error er => exact hx pins σ _ _ er s' I2 hq'
  | ok fl =>
    cases fl with
    | ret u =>
      obtain ⟨v, H2, os2, bare2, un2, hok2, rv, ev, d, fs, ea, ed, hd1, q2⟩ := hq'
      subst ev
      obtain ⟨h2, g2, d2, t2, os'⟩ := s'
      exact ⟨rv, mk_endN (raises_own T.exC T.tyC) I1 hsz kk un2 hok2 os2 bare2 ea ed hd1 q2⟩
    | next => exact False.elim hq'
    | brk => exact False.elim hq'
    | cont => exact False.elim hq'
theorem ps_raiseCN {X : Cx} {E : XK} {j : Nat} {c f1 f2 : Str} {d : He.DefD} {e : Expr} {es : List Expr} {ta : TA} {p pos pos2 : Pos} (C : ErrC X.prog X.w X.K X.mg X.base c f1 f2 d) (hc : X.calm = true) (hr : Room j X.A) (hk : 2 ≤ j) (tk : L2N.Takes X (fun cls d _ H => E cls d H)) (ha : PA X (e :: es) ta) (hg : Gl X c := by rfl)
    (hdb : (c == ("__debug__" : Str)) = false := by decide) (he : starEach (e :: es) X.env = (false, eval e X.env) :: starEach es X.env := by rfl) (hpl : (backTo pos (starEach es X.env)).any (·.1) = false := by rfl) :
    PS X (.Raise (some (.Call (.Name c p) (e :: es) [] pos)) none pos2) (fun _ σ H => tMkO (He.ga X.K c) (spIni (He.ga X.K c) f1 f2) [] ta σ H fun cls d H' => E cls d H') := by
  obtain ⟨fd, F, B⟩ := C.run
  exact L2N.ps_raise (W := fun cls d _ H => E cls d H) hc tk (pmk_oexN C.oex C.init C.ty F (hr.mono hk) B (fun pins σ H s e s' I c => by
    obtain ⟨_, _, _, _, _, _, _, _, _, _, _, _, z⟩ := c
    exact z.elim) hg C.glo ha hdb he hpl)
def errY1 (c : Str) (d : Str × Option Str) (f1 : Str) : List YesNo := [fun K => oexB K (He.ga K c), fun K => decide (PySem.W.findIn K (.ref (He.ga K c)) "__init__" = some (some (.ref (He.fAd K d)))), fun K => decide (PySem.W.typeIn K (.ref (He.fAd K d)) = some (.type "function")),
  fun K => decide (PySem.W.findIn K (.ref (He.ga K c)) f1 = some none), fun K => xfB K (He.ga K c)]
inductive HdsAN (X : Cx) : List ExceptHandler → List HdT → Prop
  | nil : HdsAN X [] []
  | cons {x n : Str} {c : Value} {i : Nat} {ts : Addr → Value → Option Addr → TS} {b₀ : Stmt} {suite : List Stmt} {np pos' : Pos} {hds : List ExceptHandler} {l : List HdT} (hi : X.N[i]? = some n) (hln : X.env.kindOf n = some .local) (hc : Names X x c)
      (hsu : ∀ (a : Addr) (oe : Obj) (cls : Value) (d : Option Addr) (pn : List (Addr × Obj)), L2N.Zn cls d oe → (∃ vs, oe.data = .fields vs) → PSs (X.suite a ((a, oe) :: pn)) (b₀ :: suite) (ts a cls d)) (r : HdsAN X hds l) :
      HdsAN X (.ExceptHandler (some (.Name x np)) (some n) (b₀ :: suite) pos' :: hds) ((c, i, ts) :: l)
  | dead {hd : List ExceptHandler} {c : Value} {i : Nat} {ts : Addr → Value → Option Addr → TS} (hc : ∀ cls, PySem.W.exmOne X.K cls c = none) : HdsAN X hd [(c, i, ts)]
section
variable {X : Cx} {body : List Stmt} {hd0 : ExceptHandler} {hds : List ExceptHandler} {l : List HdT} {pos : Pos} {tb : WX → TS} {Wout : WX}
theorem ps_try_allN (hs : X.stack = X.env :: X.outer) (hf : X.env.frame = some X.env.locals) (hN : X.N.Nodup) (tk : L2N.Takes X Wout)
    (hb : ∀ (W : WX) (pn : List (Addr × Obj)) (xe : Value → Shared → Prop), L2N.Takes (X.tr pn xe) W → PassesOwn (model X.prog X.w) X.A X.env xe → PSs (X.tr pn xe) body (tb W)) (hh : HdsAN X (hd0 :: hds) l) :
    PS X (.Try body (hd0 :: hds) [] [] pos) (fun D σ H => tb (wAll X.K Wout D l) D σ H) := by
  refine ⟨fun pins s σ H D I h => ?_⟩
  have ok := I.ok; have frm : X.A.frames = some (X.env :: X.outer) := by rw [ok.frames, hs]
  refine wpAny_Try_except ?_
  refine wpAny_mono ((hb (wAll X.K Wout D l) (X.pn ++ pins) (fun e s₁ => wpAny (model X.prog X.w) X.A (noteFrame e X.env) (fun _ s₂ => wpAny (model X.prog X.w) X.A (setFlight e none) (fun _ s₃ =>
    wpAny (model X.prog X.w) X.A (handleBy e X.env (hd0 :: hds)) (SP X pins D) X.xe s₃) X.xe s₂) X.xe s₁) (fun u s' xx => ?_) PassesOwn.looking).run [] s σ H D (I.toTry _) h) (fun f s1 hsp => ?_) (fun e s1 he => he)
  · obtain ⟨a, B, sI, pins', σ', H', cls, d, rfl, J', nb, up, sky, na, os, ag, wsh⟩ := xx
    have J : Inv X pins σ' H' sI := J'.ofTry ok; have sky2 : Sky B (X.env :: X.outer) a (L2N.Zn cls d) X.env.locals s'.heap := by rw [← hs]; exact sky
    show wpAny (model X.prog X.w) X.A (noteFrame (.ref a) X.env) _ _ _
    refine L2N.Sky.land L2N.Zn.steady frm hf sky2 fun h3 fl3 up3 => ?_
    have J3 : Inv X pins σ' H' { s' with heap := h3 } := J.landed nb fl3.1 (up.trans up3) os ag
    obtain ⟨oe3, vs3, he3, hz3, hd3⟩ := fl3.there
    have apart : a ∉ frs (X.env :: X.outer) := fun hm => by
      obtain ⟨_, o', e', nf⟩ := fl3.2.2.1.mem hm
      rw [he3] at e'; cases e'; exact nf _ hd3
    have nL : a ≠ X.env.locals := fun z => apart (List.mem_filterMap.mpr ⟨X.env, List.mem_cons_self, by rw [hf, z]⟩)
    have nF : a ∉ X.fs := fun hm => by
      obtain ⟨e, he, q⟩ := List.mem_filterMap.mp hm
      exact apart (List.mem_filterMap.mpr ⟨e, List.mem_cons_of_mem _ he, q⟩)
    have S3 := J3.suite he3 hd3 na nL nF
    have go : ∀ {hds' : List ExceptHandler} {l' : List HdT}, HdsAN X hds' l' → wAll X.K Wout D l' cls d σ' H' → wpAny (model X.prog X.w) X.A (handleBy (.ref a) X.env hds') (SP X pins D) X.xe { s' with heap := h3 } := by
      intro hds' l' hk
      induction hk with
      | nil =>
        intro w; refine wpAny_handleBy_nil ?_
        obtain ⟨k1, k2, k3, oe, vs, T, oT, ts', he, hz, hd, h1, hr⟩ := id fl3
        unfold PySem.passOn; refine wpAny_bind (wpAny_field he hd h1 ?_)
        rw [if_neg (show ¬ ((Value.ref T == Value.none) = true) from by simp)]
        have fin : wpAny (model X.prog X.w) X.A (setFlight (.ref a) X.env.frame) (fun _ s4 => wpAny (model X.prog X.w) X.A (throw (.ref a) : Sem Flow) (SP X pins D) X.xe s4) X.xe { s' with heap := h3 } := by
          rw [hf]; refine HandSPX.setFlight_upZ fl3 fun h4 hh4 up4 => wpAny_throw (tk _ _ ?_)
          exact ⟨a, B, sI, pins, σ', H', cls, d, rfl, J, nb, (up.trans up3).trans up4, .inr (.inr (by rw [hs]; exact hh4)), na, os, ag, w⟩
        first
          | exact wpAny_bind (wpAny_pure (wpAny_bind fin))
          | exact wpAny_bind fin
      | @cons x n c i ts b₀ suite np pos' hds2 l2 hi hln hc hsu r ih =>
        intro w
        obtain ⟨b, hb1, hyes, hno⟩ := w
        refine wpAny_handleBy_cons (codeAny_handlers_test ?_) (by intro q; cases q)
        have LT : PySem.W.Looks (model X.prog X.w) h3 (typeOf (.ref a)) cls := fun A Q E s k q => wpAny_typeOf_ref (k _ _ he3) (by rw [hz3.1]; exact q)
        have LM := PySem.W.exm_one (M := model X.prog X.w) (J3.kIn) LT hb1
        have test : ∀ {Q : Value → Shared → Prop} {E : Value → Shared → Prop}, Q c { s' with heap := h3 } → wpAny (model X.prog X.w) (X.A.mark (some (.ref a))) (eval (.Name x np) X.env) Q E { s' with heap := h3 } := fun {Q E} q => by
          obtain ⟨hg, dbg, hm | ⟨hm, hv, nn⟩⟩ := hc
          · exact ld_glob (X := X.suite a ((a, oe3) :: (X.pn ++ pins))) S3 hg hm q dbg
          · exact ld_blt (X := X.suite a ((a, oe3) :: (X.pn ++ pins))) S3 hg hm hv q nn dbg
        refine test (LM.here ?_)
        cases b with
        | true =>
          refine codeAny_handlers_suite_as ?_
          refine HandSPX.lands_againZ fl3 fun h4 fl4 up4 => ?_
          have J4 : Inv X pins σ' H' { s' with heap := h4 } := J.landed nb fl4.1 ((up.trans up3).trans up4) os ag
          obtain ⟨oe4, vs4, he4, hz4, hd4⟩ := fl4.there
          have S4 := J4.suite he4 hd4 na nL nF
          refine store_ok (X := X.suite a ((a, oe4) :: (X.pn ++ pins))) (v := .ref a) S4 hN hi (.inl hln) rfl (fun s5 S5 => ?_) (.inr hln)
          refine wpAny_mono ((hsu a oe4 cls d (X.pn ++ pins) hz4 ⟨_, hd4⟩).run [] s5 _ H' _ S5 (hyes rfl a na)) (fun f s6 hsp => ?_) (fun _ _ z => False.elim z)
          have gone : ∀ {σ6 : L2.St} {H6 : Hp} {Q : Shared → Prop}, Inv (X.suite a ((a, oe4) :: (X.pn ++ pins))) [] σ6 H6 s6 → (∀ s7, Inv X pins (σ6.set i none) H6 s7 → Q s7) →
              wpAny (model X.prog X.w) X.A (do bindName X.env n .none; unbindBehindTheSuite X.env n pos') (fun _ s7 => Q s7) X.xe s6 := fun {σ6 H6 Q} S6 hq => gone_ok (S6.unsuite ok) hN hi hln hq
          cases f with
          | ret u =>
            obtain ⟨v6, σ6, H6, S6, r6, q6⟩ := hsp
            exact gone S6 fun s7 J7 => ⟨_, _, _, J7, r6, q6⟩
          | next =>
            obtain ⟨σ6, H6, S6, q6⟩ := hsp
            exact gone S6 fun s7 J7 => ⟨_, _, J7, q6⟩
          | brk =>
            obtain ⟨σ6, H6, S6, q6⟩ := hsp
            exact gone S6 fun s7 J7 => ⟨_, _, J7, q6⟩
          | cont =>
            obtain ⟨σ6, H6, S6, q6⟩ := hsp
            exact gone S6 fun s7 J7 => ⟨_, _, J7, q6⟩
        | false => exact ih (hno rfl)
      | @dead hd2 c i ts hc =>
        intro w
        obtain ⟨b, hb1, _⟩ := w
        rw [hc] at hb1
        cases hb1
    exact go hh wsh
  · cases f with
    | ret u =>
      obtain ⟨v, σ', H', J', r, q⟩ := hsp
      exact ⟨v, σ', H', J'.ofTry ok, r, q⟩
    | next =>
      obtain ⟨σ', H', J', q⟩ := hsp
      exact wpAny_execs_nil ⟨σ', H', J'.ofTry ok, q⟩
    | brk =>
      obtain ⟨σ', H', J', q⟩ := hsp
      exact ⟨σ', H', J'.ofTry ok, q⟩
    | cont =>
      obtain ⟨σ', H', J', q⟩ := hsp
      exact ⟨σ', H', J'.ofTry ok, q⟩
end
end Mir
end
section
set_option Elab.async false
set_option linter.all false
set_option maxRecDepth 100000
set_option maxHeartbeats 4000000
namespace Mir
open PySem PySem.Spec PyProof.Rows L2
open L2H (RoomH HotC Hot1 PinOk FnH cxH)
/-- the texts that stand at the slots js -/
def strsAt (en : En) : List Nat → Option (List (Nat × Str))
  | [] => some []
  | j :: r => match en[j]? with
    | some (.dat (.str x)) => (strsAt en r).map ((j, x) :: ·)
    | _ => none
theorem strsAt_mem {en : En} : ∀ {js : List Nat} {vs : List (Nat × Str)}, strsAt en js = some vs → ∀ p ∈ vs, en[p.1]? = some (.dat (.str p.2)) ∧ p.1 ∈ js
  | [], vs, h, p, hp => by cases h; cases hp
  | j :: r, vs, h, p, hp => by
    unfold strsAt at h
    split at h
    · rename_i x e
      cases q : strsAt en r with
      | none => rw [q] at h; cases h
      | some us =>
        rw [q] at h
        cases h
        rcases List.mem_cons.mp hp with rfl | hp
        · exact ⟨e, List.mem_cons_self⟩
        · obtain ⟨h1, h2⟩ := strsAt_mem q p hp
          exact ⟨h1, List.mem_cons_of_mem _ h2⟩
    · cases h
/-- the slots hold these texts -/
def HoldsS (σ : L2.St) (vs : List (Nat × Str)) : Prop := ∀ p ∈ vs, σ[p.1]? = some (some (.str p.2))
section
variable {K : PySem.W.Frag} {mg : Str → Option Value} {F : Fm} {σ : L2.St} {G G' H H' : Hp} {en : En}
theorem holds_of (g : Gd K F G H σ en) {js : List Nat} {vs : List (Nat × Str)} (h : strsAt en js = some vs) : HoldsS σ vs := fun p hp => by
  obtain ⟨v, h1, h2⟩ := g.dat (strsAt_mem h p hp).1
  cases h2
  exact h1
structure SXvT (K : PySem.W.Frag) (vs : List (Nat × Str)) (i : Nat) (a C dd : Addr) (ts : TS) (m : List (Str × D) → Rs D) : Prop where
  run : ∀ σ G H xs fs z (D0 : Ends), Same G H → σ[i]? = some (some (.ref a)) → HoldsS σ vs → H dd = some (.xd xs) → FsOk K G xs fs → m fs = .ok z → (∀ v G' H', Gf (F0 G H) G' H' → Dp K G' v z → D0.rt v H') → ts D0 σ H
variable {vs : List (Nat × Str)} {i : Nat} {a C dd : Addr}
theorem sxvt_of {ts : TS} {m : List (Str × D) → Rs D} (h : SXT K i a C dd ts m) : SXvT K vs i a C dd ts m := ⟨fun σ G H xs fs z D0 gh hi _ => h.run σ G H xs fs z D0 gh hi⟩
/-- an expression whose errors are caught: the slots js hold these texts -/
def eAtV (k : Nat) (js : List Nat) (vs : List (Nat × Str)) (m : Em) : Em := fun en => if k < en.length ∧ strsAt en js = some vs then m en else .stk
/-- what such an expression's errors come with -/
def EV (k : Nat) (vs : List (Nat × Str)) (W : WX) : XK := fun cls d H => ∀ σ, k < σ.length → HoldsS σ vs → W cls d σ H
theorem se_atV {k : Nat} {js : List Nat} {E : XK} {E2 : L2.St → XK} {te : TE} {m : Em} (h : ∀ σ, k < σ.length → HoldsS σ vs → (∀ cls dx H, E cls dx H → E2 σ cls dx H) → ∀ F en G H Q, Gd K F G H σ en → PoE K mg E F σ G Q (m en) → te σ H Q)
    (hE : ∀ σ cls dx H, k < σ.length → HoldsS σ vs → E cls dx H → E2 σ cls dx H) : SE K mg (fun _ => E) te (eAtV k js vs m) := by
  refine ⟨fun F σ en G H Q g h0 => ?_⟩
  unfold eAtV at h0
  split at h0
  · rename_i hi
    have hl : k < σ.length := by rw [← g.len]; exact hi.1
    have hs := holds_of g hi.2
    exact h σ hl hs (fun cls dx H e => hE σ cls dx H hl hs e) F en G H Q g h0
  · exact h0.elim
def mTryV (js : List Nat) (ms : List (Nat × Str) → List HdM) (b : List (Nat × Str) → Sm) : Sm := fun en => match strsAt en js with
  | none => .stk
  | some vs => match b vs en with
    | .err c fs => (pickH (ms vs) c fs).calm.bind fun d => .ok (.rt d, en.map fun _ => .un)
    | r => r
inductive HmOkV (K : PySem.W.Frag) (mg : Str → Option Value) (k : Nat) (js : List Nat) (vs : List (Nat × Str)) : List HdT → List HdM → Prop
  | nil : HmOkV K mg k js vs [] []
  | cons {c : Value} {i : Nat} {ts : Addr → Value → Option Addr → TS} {l : List HdT} {cs : List (Str × Bool)} {hm : List (Str × D) → Rs D} {ms : List HdM} (hi : i ≤ k) (hij : i ∉ js) (hcs : ∀ x bb C, (x, bb) ∈ cs → mg x = some (.ref C) → PySem.W.exmOne K (.ref C) c = some bb)
      (hx : ∀ a C dd, (∃ x, (x, true) ∈ cs ∧ mg x = some (.ref C)) → SXvT K vs i a C dd (ts a (.ref C) (some dd)) hm) (r : HmOkV K mg k js vs l ms) : HmOkV K mg k js vs ((c, i, ts) :: l) ((cs, hm) :: ms)
theorem ss_tryV {E : XK} {k : Nat} {js : List Nat} {l : List HdT} {ms : List (Nat × Str) → List HdM} {tb : WX → TS} {b : List (Nat × Str) → Sm} {Wout : WX} (hb : ∀ (vs : List (Nat × Str)) (W : WX), SS K mg (EV k vs W) (tb W) (b vs)) (hm : ∀ vs, HmOkV K mg k js vs l (ms vs)) :
    SS K mg E (fun D σ H => tb (wAll K Wout D l) D σ H) (mTryV js ms b) := by
  refine ⟨fun F σ en G H D g h => ?_⟩
  unfold mTryV at h
  split at h
  · exact h.elim
  rename_i vs hvs
  refine (hb vs _).run (F.re K G H σ en) σ en G H D g.rebase ?_
  cases q : b vs en with
  | stk => rw [q] at h; exact h
  | ok z =>
    obtain ⟨fl, en'⟩ := z
    rw [q] at h
    cases fl with
    | nx => exact fun σ' G' H' g' s' => h σ' G' H' (g.back g') s'
    | bk => exact fun σ' G' H' g' s' => h σ' G' H' (g.back g') s'
    | ct => exact fun σ' G' H' g' s' => h σ' G' H' (g.back g') s'
    | rt d => exact fun v σ' G' H' g' s' hd => h v σ' G' H' (g.back g') s' hd
  | err x fs =>
    rw [q] at h
    intro cls dx H' er σ' hk hv
    obtain ⟨d, ed, pd⟩ := calm_bind (P := PoS K mg E F G D) id h
    obtain ⟨C, dd, xs, G', rfl, hC, rfl, gf', h0, hg, hd, ok⟩ := er
    have fin : ∀ v G2 H2, Gf (F0 G' H') G2 H2 → Dp K G2 v d → D.rt v H2 := fun v G2 H2 f2 d2 => by
      have gF : Gf F G2 H2 := (g.gf.comp gf' rfl rfl g.zs).comp f2 rfl rfl fun _ z => z.elim
      have e1 : (en.map fun _ => SV.un) = σ.map fun _ => SV.un := len_un en σ g.len
      rw [e1] at pd
      exact pd v σ G2 H2 (gd_un gF) (gf'.g0.trans f2.g0) d2
    have hjs : ∀ p ∈ vs, p.1 ∈ js := fun p hp => (strsAt_mem hvs p hp).2
    clear q h hvs
    have hm' := hm vs
    clear hm
    generalize hms : ms vs = msv at hm' ed
    clear hms
    induction hm' with
    | nil => cases ed
    | @cons c i ts l cs hm ms hi hij hcs hx r ih =>
      unfold pickH at ed
      by_cases q1 : (x, true) ∈ cs
      · rw [if_pos q1] at ed
        refine ⟨true, hcs x true C q1 hC, fun _ a ha => ?_, fun z => Bool.noConfusion z⟩
        have hs : (σ'.set i (some (.ref a)))[i]? = some (some (.ref a)) := by rw [List.getElem?_set_self (by omega)]
        have hv' : HoldsS (σ'.set i (some (.ref a))) vs := fun p hp => by
          have : i ≠ p.1 := fun z => hij (by rw [z]; exact hjs p hp)
          rw [List.getElem?_set_ne this]
          exact hv p hp
        exact (hx a C dd ⟨x, q1, hC⟩).run _ G' H' xs fs d _ gf'.gh hs hv' hd ok ed fin
      · rw [if_neg q1] at ed
        by_cases q2 : (x, false) ∈ cs
        · rw [if_pos q2] at ed
          exact ⟨false, hcs x false C q2 hC, fun z => Bool.noConfusion z, fun _ => ih ed⟩
        · rw [if_neg q2] at ed
          cases ed
end
end Mir
end
section
set_option Elab.async false
set_option linter.all false
set_option maxRecDepth 100000
set_option maxHeartbeats 4000000
namespace Mir
open PySem PySem.Spec PyProof.Rows L2
def tysL : List String := ["NoneType", "bool", "int", "str", "list", "tuple"]
end Mir
end
section
set_option Elab.async false
set_option linter.all false
set_option maxRecDepth 100000
set_option maxHeartbeats 4000000
namespace PySem.W
open Lean Elab Tactic Meta PySem PySem.Calls PyProof.Rows
end PySem.W
namespace Mir
open PySem PySem.Spec PyProof.Rows L2
end Mir
end
section
set_option Elab.async false
set_option linter.all false
set_option maxRecDepth 100000
set_option maxHeartbeats 4000000
namespace PySem.W
open Lean Elab Tactic Meta PySem PySem.Calls PyProof.Rows
end PySem.W
namespace Mir
open PySem PySem.Spec PyProof.Rows L2
section
variable {X : Cx} {C : CXT} {k : Nat} {f : Addr} {fd : FuncData} {ps : List Str} {sp : Sp} {E : L2.St → XK}
theorem go_fn1 {pins : List (Addr × Obj)} {σ : L2.St} {H : Hp} {s : Shared} {Q : VK} {us : List Value} {vs : List V} (F : FnG X.prog X.w X.K X.mg X.base C k f fd ps sp) (hgd : X.A.guards = some []) (hr : Room (k + 1) X.A) (hb : Binds X.K fd ps []) (hx : PassesAt C X σ (E σ))
    (I : Inv X pins σ H s) (r : Vals vs us) (h : sp vs H Q (E σ)) : wpAny (model X.prog X.w) X.A.in1 (call (.ref f) us) (EP X pins σ Q) X.xe s := by
  have hl : (us ++ []).length = ps.length := by
    rw [List.append_nil, ← r.length]
    exact F.size _ _ _ _ h
  have b := hb s us I.kIn hl
  rw [List.append_nil] at b
  refine wpAny_call (codeAny_mono (F.go X.A.in1 X.stack s H ⟨us, []⟩ us vs Q (E σ) hgd hr.in1 I.env0.in1 b r h) ?_)
  intro rs s' hq
  cases rs with
  | error ev => exact hx pins H s ev s' I hq
  | ok fl =>
    cases fl with
    | ret u => exact I.after hq
    | next => exact (show False from hq).elim
    | brk => exact (show False from hq).elim
    | cont => exact (show False from hq).elim
end
def rLenG (K : PySem.W.Frag) (c : Str) (sp : Sp) (E : L2.St → XK) : L2.St → List V → Hp → VK → Prop := fun σ xs H Q => ∃ a dx fs, xs = [.ref a] ∧ H a = some (.ins (He.ga K c) dx fs) ∧ sp xs H (fun v H3 => ∃ n : Nat, v = .int n ∧ n < 2 ^ 63 ∧ Q (.int n) H3) (E σ)
def tCBs (r : L2.St → List V → Hp → VK → Prop) (t : TA) : TE := fun σ H Q => t σ H fun vs H1 => r σ vs H1 Q
theorem fr_of {X : Cx} {pins : List (Addr × Obj)} {σ : L2.St} {H : Hp} {s : Shared} (I : Inv X pins σ H s) : ∃ m, Fr X.base X.env.locals s.heap m :=
  let ⟨m, hm, _⟩ := I.loc
  ⟨m, hm, I.bk, Nat.le_trans I.ok.bsz I.ok.above⟩
theorem fnIn_of {K : PySem.W.Frag} {x qual : Str} {params : Arguments} {body : List Stmt} {scope : Scope} {dvs : List V} {kws : List (Str × V)} {f : Addr} {fd : FuncData} (F : FunD K x qual params body scope dvs kws f fd) : PySem.W.fnIn K f = true := by
  obtain ⟨oc, od, dV, kV, doc, pm, an, cdv, ct, osl, _, lk, _⟩ := F.ex
  unfold PySem.W.fnIn
  rw [lk]
section
variable {X : Cx} {j k : Nat} {c x : Str} {d : He.DefD} {ps : List Str} {sp : Sp} {E : L2.St → XK} {p pos : Pos} {e e1 e2 : Expr} {es : List Expr} {ta tb : TE} {t : TA}
variable {P : Program} {w : World} {K : PySem.W.Frag} {mg : Str → Option Value} {base : Heap}
theorem call_lenX [CxK] (cm : CalM X.prog X.w X.K X.mg X.base k c "__len__" d ps sp) (hgd : X.A.guards = some []) (hr : Room j X.A) (hk : k + 1 ≤ j) (hx : ∀ σ, PassesAt (CxK.cx X.prog X.w) X σ (E σ)) {pins : List (Addr × Obj)} {s : Shared} {σ : L2.St} {H : Hp} {xs : List V} {us : List Value} {Q : VK}
    (I : Inv X pins σ H s) (r : Vals xs us) (h : rLenG X.K c sp E σ xs H Q) : wpAny (model X.prog X.w) X.A (call (.builtin "len") us) (EP X pins σ Q) X.xe s := by
  obtain ⟨fd, F, Fn, B⟩ := cm.ex
  obtain ⟨a, dx, fs, rfl, ea, q⟩ := h
  obtain ⟨u, rfl, rx⟩ := vals1 r
  obtain rfl : u = Value.ref a := rx
  obtain ⟨mA, O, _, _, _, _⟩ := ins_get I.hok ea
  obtain ⟨od, J, _⟩ := O.look
  obtain ⟨m, fr⟩ := fr_of I
  refine PySem.W.len_K fr I.mod.kin J cm.me.at_ cm.me.fn (wpAny_mono (go_fn1 (us := [.ref a]) (vs := [.ref a]) Fn hgd (hr.mono hk) B (hx σ) I r q) (fun z s' hz => ?_) fun _ _ e => e)
  obtain ⟨yv, H', I', rv, n, rfl, hn, qv⟩ := hz
  obtain ⟨t, rfl⟩ : ∃ t, z = Value.int n t := rv
  exact ⟨⟨by omega, by omega⟩, ⟨.int n, H', I'.tok _, ⟨_, rfl⟩, qv⟩⟩
theorem pe_lenX [CxK] (cm : CalM X.prog X.w X.K X.mg X.base k c "__len__" d ps sp) (hgd : X.A.guards = some []) (hr : Room j X.A) (hk : k + 1 ≤ j) (hx : ∀ σ, PassesAt (CxK.cx X.prog X.w) X σ (E σ))
    (hg : Gl X x) (hm : X.mg x = none) (hv : bootBuiltins x = some (.builtin "len")) (ha : PA X (e :: es) t) (hn : x ≠ "__name__") (hdb : (x == ("__debug__" : Str)) = false)
    (he : starEach (e :: es) X.env = (false, eval e X.env) :: starEach es X.env) (hpl : (backTo pos (starEach es X.env)).any (·.1) = false) : PE X (.Call (.Name x p) (e :: es) [] pos) (tCBs (rLenG X.K c sp E) t) := by
  refine ⟨fun pins s σ H Q I h => ?_⟩
  refine wpAny_Call_Name_kw (ld_blt I hg hm hv ?_ hn hdb)
  exact PyProof.Rows.callWith_builtin1 (thn (ha.run pos pins s σ H _ I h) fun us s1 ⟨vs, H1, I1, r1, q1⟩ => call_lenX cm hgd hr hk hx I1 r1 q1) he hpl
theorem pe_lenG [CxK] (cm : CalM P w K mg base k c "__len__" d ps sp) (hgd : X.A.guards = some []) (hr : Room j X.A) (hk : k + 1 ≤ j) (hx : ∀ σ, PassesAt (CxK.cx X.prog X.w) X σ (E σ))
    (hg : Gl X x) (hm : mg x = none) (hv : bootBuiltins x = some (.builtin "len")) (ha : PA X (e :: es) t) (hn : x ≠ "__name__" := by decide) (hdb : (x == ("__debug__" : Str)) = false := by decide)
    (he : starEach (e :: es) X.env = (false, eval e X.env) :: starEach es X.env := by rfl) (hpl : (backTo pos (starEach es X.env)).any (·.1) = false := by rfl)
    (z1 : X.prog = P := by rfl) (z2 : X.w = w := by rfl) (z3 : X.K = K := by rfl) (z4 : X.mg = mg := by rfl) (z5 : X.base = base := by rfl) : PE X (.Call (.Name x p) (e :: es) [] pos) (tCBs (rLenG K c sp E) t) := by
  subst z1 z2 z3 z4 z5
  exact pe_lenX cm hgd hr hk hx hg hm hv ha hn hdb he hpl
end
section
variable {K : PySem.W.Frag} {mg : Str → Option Value} {E : L2.St → XK}
def eLenO (c : Str) (M : List D → Rs D) (a : Am) : Em := fun en => (a en).bind fun p => match p.1 with
  | [d] => match insD c d with
    | some _ => (M [d]).bind fun z => match z with
      | .int n => if 0 ≤ n ∧ n < 2 ^ 63 then .ok (.int n, p.2) else .stk
      | _ => .stk
    | none => .stk
  | _ => .stk
theorem se_lenO {c : Str} {M : List D → Rs D} {ta : TA} {a : Am} (h0 : SA K mg E ta a) : SE K mg E (tCBs (rLenG K c (spP K mg M) E) ta) (eLenO c M a) := by
  refine ⟨fun F σ en G H Q g h => ?_⟩
  show ta σ H _
  refine sa_bind h0 g poE_err id h fun ds en1 vs G1 H1 p1 g1 s1 d1 => ?_
  dsimp only at p1
  split at p1
  · rename_i d
    obtain ⟨v, rfl, dv⟩ := dpa1 d1
    cases ec : insD c d with
    | none => rw [ec] at p1; exact p1.elim
    | some kvs =>
      rw [ec] at p1
      dsimp only at p1
      obtain ⟨p, dx, fs, rfl, k2, k3, k4⟩ := dp_ins dv ec
      refine ⟨p, dx, fs, rfl, g1.gf.gh _ _ k2, ?_⟩
      refine ⟨G1, [d], g1.gf.gh, .cons dv .nil, ?_⟩
      cases q : M [d] with
      | stk => rw [q] at p1; exact p1.elim
      | err c fs =>
        rw [q] at p1
        exact fun cls dx H' e => p1 cls dx H' (ErrAt.back (F' := F0 G1 H1) g1.gf rfl rfl (fun _ z => z.elim) e)
      | ok z =>
        rw [q] at p1
        cases z with
        | int n =>
          replace p1 : PoE K mg (E σ) F σ G Q (if 0 ≤ n ∧ n < 2 ^ 63 then .ok (.int n, en1) else .stk) := p1
          split at p1
          · rename_i hn
            exact fun v G' H' f hd => by
              cases hd
              have e : ((n.toNat : Nat) : Int) = n := Int.toNat_of_nonneg hn.1
              refine ⟨n.toNat, by rw [e], by omega, ?_⟩
              rw [e]
              exact p1 _ G' H' (g1.grow f) (s1.trans f.g0) (.int _)
          · exact p1.elim
        | _ => exact p1.elim
  · exact p1.elim
end
def tAtG (K : PySem.W.Frag) (c : Str) (sp : Sp) (E : L2.St → XK) (ta tb : TE) : TE := fun σ H Q => ta σ H fun x H1 => tb σ H1 fun y H2 => ∃ a dx fs, x = .ref a ∧ H2 a = some (.ins (He.ga K c) dx fs) ∧ sp [x, y] H2 Q (E σ)
def NoSlO (i : Expr) : Prop := ∀ ov iv, subscripted i true ov iv = runValue (.builtin "lifetime.subscript" ⟨[ov, iv], []⟩)
section
variable {X : Cx} {j k : Nat} {c : Str} {d : He.DefD} {ps : List Str} {sp : Sp} {E : L2.St → XK} {pos : Pos} {e1 e2 : Expr} {ta tb : TE}
variable {P : Program} {w : World} {K : PySem.W.Frag} {mg : Str → Option Value} {base : Heap}
theorem pe_atX [CxK] (cm : CalM X.prog X.w X.K X.mg X.base k c "__getitem__" d ps sp) (hgd : X.A.guards = some []) (hr : Room j X.A) (hk : k + 1 ≤ j) (hx : ∀ σ, PassesAt (CxK.cx X.prog X.w) X σ (E σ)) (he : PE X e1 ta) (hf : PE X e2 tb) (hs : NoSlO e2) :
    PE X (.Subscript e1 e2 pos) (tAtG X.K c sp E ta tb) := by
  obtain ⟨fd, F, Fn, B⟩ := cm.ex
  refine ⟨fun pins s σ H Q I h => ?_⟩
  refine Subscript_ (thn (he.run pins s σ H _ I h) fun u s1 ⟨x, H1, I1, rx, q1⟩ => thn (hf.run pins s1 σ H1 _ I1 q1) fun v s2 ⟨y, H2, I2, ry, a, dx, fs, ex, ea, q⟩ => ?_)
  subst ex
  obtain rfl : u = Value.ref a := rx
  obtain ⟨mA, O, _, _, _, _⟩ := ins_get I2.hok ea
  obtain ⟨od, J, _⟩ := O.look
  obtain ⟨m, fr⟩ := fr_of I2
  exact PySem.W.sub_K fr I2.mod.kin J cm.me.at_ (fnIn_of F) cm.me.fn (go_fn1 (us := [.ref a, v]) (vs := [.ref a, y]) Fn hgd (hr.mono hk) B (hx σ) I2 (.cons rfl (.cons ry .nil)) q) (hs _ _)
theorem pe_atG [CxK] (cm : CalM P w K mg base k c "__getitem__" d ps sp) (hgd : X.A.guards = some []) (hr : Room j X.A) (hk : k + 1 ≤ j) (hx : ∀ σ, PassesAt (CxK.cx X.prog X.w) X σ (E σ)) (he : PE X e1 ta) (hf : PE X e2 tb) (hs : NoSlO e2)
    (z1 : X.prog = P := by rfl) (z2 : X.w = w := by rfl) (z3 : X.K = K := by rfl) (z4 : X.mg = mg := by rfl) (z5 : X.base = base := by rfl) : PE X (.Subscript e1 e2 pos) (tAtG K c sp E ta tb) := by
  subst z1 z2 z3 z4 z5
  exact pe_atX cm hgd hr hk hx he hf hs
end
section
variable {K : PySem.W.Frag} {mg : Str → Option Value} {E : L2.St → XK}
def eAtG (c : Str) (M : List D → Rs D) (a b : Em) : Em := fun en => (a en).bind fun p => (b p.2).bind fun q => match insD c p.1 with
  | some _ => (M [p.1, q.1]).bind fun d => .ok (d, q.2)
  | none => .stk
theorem se_atG {c : Str} {M : List D → Rs D} {te tf : TE} {a b : Em} (h0 : SE K mg E te a) (h1 : SE K mg E tf b) : SE K mg E (tAtG K c (spP K mg M) E te tf) (eAtG c M a b) := by
  refine ⟨fun F σ en G H Q g h => ?_⟩
  show te σ H _
  refine se_bind h0 g poE_err id h fun d en1 v G1 H1 p1 g1 s1 d1 => ?_
  dsimp only at p1
  show tf σ H1 _
  refine se_bind h1 g1 poE_err id p1 fun e en2 y G2 H2 p2 g2 s2 d2 => ?_
  dsimp only at p2
  cases ec : insD c d with
  | none => rw [ec] at p2; exact p2.elim
  | some kvs =>
    rw [ec] at p2
    dsimp only at p2
    have d1' := dp_mono s2 _ _ d1
    obtain ⟨p, dx, fs, rfl, k2, k3, k4⟩ := dp_ins d1' ec
    refine ⟨p, dx, fs, rfl, g2.gf.gh _ _ k2, ?_⟩
    refine ⟨G2, [d, e], g2.gf.gh, .cons d1' (.cons d2 .nil), ?_⟩
    cases q : M [d, e] with
    | stk => rw [q] at p2; exact p2.elim
    | err c fs =>
      rw [q] at p2
      exact fun cls dx H' e => p2 cls dx H' (ErrAt.back (F' := F0 G2 H2) g2.gf rfl rfl (fun _ z => z.elim) e)
    | ok z =>
      rw [q] at p2
      exact fun v G' H' f hd => p2 v G' H' (g2.grow f) ((s1.trans s2).trans f.g0) hd
end
def eqY (c : Str) (cs : List Str) : YesNo := fun K => (tysL.all fun t => PySem.W.notFirst K (He.ga K c) (.type t)) && cs.all fun e => PySem.W.notFirst K (He.ga K c) (.ref (He.ga K e))
end Mir
namespace PySem.W
open PySem PySem.Spec PySem.Calls PyProof.Rows
end PySem.W
namespace Mir
open PySem PySem.Spec PyProof.Rows L2
end Mir
end
section
set_option Elab.async false
set_option linter.all false
set_option maxRecDepth 100000
set_option maxHeartbeats 4000000
namespace PySem.W
open PySem PySem.Spec PySem.Calls PyProof.Rows
end PySem.W
namespace Mir
open PySem PySem.Spec PyProof.Rows L2
def neY (c : Str) : YesNo := fun K => decide (PySem.W.mroIn K (He.ga K c) (.type "object") = some true) && decide (PySem.W.findIn K (.ref (He.ga K c)) "__ne__" = some (some (.builtin "object.__ne__")))
end Mir
end
section
set_option Elab.async false
set_option linter.all false
set_option maxRecDepth 100000
set_option maxHeartbeats 4000000
namespace Mir
open PySem PySem.Spec PyProof.Rows L2
theorem noSlO_name {x : Str} {p : Pos} : NoSlO (.Name x p) := fun _ _ => by with_unfolding_all rfl
section
variable {K : PySem.W.Frag} {mg : Str → Option Value} {E : L2.St → XK} {F : Fm} {σ : L2.St} {G G' H H' : Hp} {en : En}
theorem se_atX {vs : List (Nat × Str)} {k : Nat} {js : List Nat} {E : XK} {E2 : L2.St → XK} {te : TE} {m : Em} (hE : ∀ σ cls dx H, k < σ.length → HoldsS σ vs → E cls dx H → E2 σ cls dx H) (h0 : SE K mg E2 te m) : SE K mg (fun _ => E) te (eAtV k js vs m) := by
  refine se_atV (fun σ hl hs hE' F en G H Q g h => ?_) hE
  refine h0.run F σ en G H Q g ?_
  cases q : m en with
  | stk => rw [q] at h; exact h
  | ok z => rw [q] at h; exact h
  | err c fs =>
    rw [q] at h
    exact fun cls dx H' e => hE' cls dx H' (h cls dx H' e)
end
end Mir
end
section
set_option Elab.async false
set_option linter.all false
set_option maxRecDepth 100000
set_option maxHeartbeats 4000000
namespace PySem.W
open Lean Elab Tactic Meta PySem PySem.Calls PyProof.Rows
end PySem.W
end
section
set_option Elab.async false
set_option linter.all false
set_option maxRecDepth 100000
set_option maxHeartbeats 4000000
namespace PySem.W
open Lean Elab Tactic Meta PySem PySem.Calls PyProof.Rows
end PySem.W
end
section
set_option Elab.async false
set_option linter.all false
set_option maxRecDepth 100000
set_option maxHeartbeats 4000000
namespace Mir
open PySem PySem.Spec PyProof.Rows L2
end Mir
end
section
set_option Elab.async false
set_option linter.all false
set_option maxRecDepth 100000
set_option maxHeartbeats 4000000
namespace Mir
open PySem PySem.Spec PyProof.Rows L2
end Mir
end
section
set_option Elab.async false
set_option linter.all false
set_option maxRecDepth 100000
set_option maxHeartbeats 4000000
namespace Mir
open PySem PySem.Spec PyProof.Rows L2
end Mir
end
section
set_option Elab.async false
set_option linter.all false
set_option maxRecDepth 100000
set_option maxHeartbeats 4000000
namespace PySem
open PySem
end PySem
namespace Mir
open PySem PySem.Spec PyProof.Rows L2
end Mir
end
section
set_option Elab.async false
set_option linter.all false
set_option maxRecDepth 100000
set_option maxHeartbeats 4000000
namespace Mir
open PySem PySem.Spec PyProof.Rows L2
end Mir
end
section
set_option Elab.async false
set_option linter.all false
set_option maxRecDepth 100000
set_option maxHeartbeats 4000000
namespace Mir
open PySem PySem.Spec PyProof.Rows L2
def getI : List (Int × D) → Int → Option D
  | [], _ => none
  | (k, d) :: r, i => if k = i then some d else getI r i
section
variable {K : PySem.W.Frag} {G : Hp}
/-- no key twice -/
def KeyNd : List (Int × D) → Prop
  | [] => True
  | (k, _) :: r => getI r k = none ∧ KeyNd r
end
instance keyNd_dec : (kvs : List (Int × D)) → Decidable (KeyNd kvs)
  | [] => Decidable.isTrue trivial
  | (k, d) :: r => match h : getI r k, keyNd_dec r with
    | none, Decidable.isTrue h2 => Decidable.isTrue ⟨h, h2⟩
    | some e, _ => Decidable.isFalse fun z => by
      have := z.1
      rw [h] at this; cases this
    | none, Decidable.isFalse h2 => Decidable.isFalse fun z => h2 z.2
end Mir
end
section
set_option Elab.async false
set_option linter.all false
set_option maxRecDepth 100000
set_option maxHeartbeats 4000000
namespace Mir
open PySem PySem.Spec PyProof.Rows L2
section
variable {K : PySem.W.Frag} {mg : Str → Option Value} {F : Fm} {σ : L2.St} {G G' H H' : Hp} {en : En}
def mSetD (i : Nat) (ix : Em) (m : Em) : Sm := fun en => (m en).bind fun p => match dlAt p.2 i with
  | none => .stk
  | some _ => (ix p.2).bind fun q => match dlAt q.2 i with
    | none => .stk
    | some ds => match ixI ds.length q.1 with
      | none => .stk
      | some j => .ok (.nx, q.2.set i (.own (.dl (ds.set j p.1))))
theorem ss_setD {E : XK} {i : Nat} {te ti : TE} {m ix : Em} (h1 : SE K mg (fun _ => E) te m) (h2 : SE K mg (fun _ => E) ti ix) : SS K mg E (tAsg te (gSub (tVar i) ti rSetL)) (mSetD i ix m) := by
  refine ⟨fun F σ en G H D g h => ?_⟩
  show te σ H _
  refine se_bind h1 g poS_err id h fun d en1 v G1 H1 p1 g1 s1 d1 => ?_
  split at p1
  · exact p1.elim
  rename_i ds0 e0
  obtain ⟨p, vs, k1, k2, k3, k4, k5⟩ := g1.ownD (dlAt_some e0)
  refine ⟨.ref p, k1, ?_⟩
  show ti σ H1 _
  refine se_bind h2 g1 poS_err id p1 fun e en2 u G2 H2 p2 g2 s2 d2 => ?_
  split at p2
  · exact p2.elim
  rename_i ds e2
  split at p2
  · exact p2.elim
  rename_i j ej
  obtain ⟨kk, rfl, ek⟩ := ixI_some ej
  cases d2
  obtain ⟨p', ws, l1, l2, l3, l4, l5⟩ := g2.ownD (dlAt_some e2)
  rw [k1] at l1; cases l1
  refine ⟨p, ws, kk, j, rfl, rfl, l3, by rw [dpa_len l4]; exact ek, ?_⟩
  exact p2 σ G2 _ (g2.mutD (dlAt_some e2) k1 l2 l3 l4 (dpa_set j l4 (dp_mono s2 _ _ d1))) (s1.trans s2)
end
end Mir
end
section
set_option Elab.async false
set_option linter.all false
set_option maxRecDepth 100000
set_option maxHeartbeats 4000000
namespace Mir
open PySem PySem.Spec PyProof.Rows L2
section
variable {M : Model} {A : Around} {E : Value → Shared → Prop} {s : Shared} {env : Env}
/-- behind the block whose environment is cenv -/
def compPostE (M : Model) (A : Around) (E : Value → Shared → Prop) (use : Option (Value → Sem Unit)) (Q : Value → Shared → Prop) (acc : Value) (cenv : Env) (r : Result) (s' : Shared) : Prop :=
  match r, use with
  | .ok _, none => ∃ m, s'.heap.Ns cenv.locals m ∧ ∀ h', Heap.SameBut cenv.locals s'.heap h' → Q acc { s' with heap := h' }
  | .ok _, some u => wpAny M A (u acc) (fun _ s'' => ∃ m, s''.heap.Ns cenv.locals m ∧ ∀ h', Heap.SameBut cenv.locals s''.heap h' → Q .none { s'' with heap := h' }) E s'
  | .error x, _ => ∃ m, s'.heap.Ns cenv.locals m ∧ ∀ h', Heap.SameBut cenv.locals s'.heap h' → wpAny M A (passOn "comprehension.variables-let-go" x cenv : Sem Value) (fun _ _ => False) E { s' with heap := h' }
theorem comprehension_freeE {e : Expr} {scope : Scope} {pos : Pos} {newAcc first : Sem Value} {g : Comprehension} {gs : List Comprehension} {cl : List (Str × Addr)} {use : Option (Value → Sem Unit)} {Q : Value → Shared → Prop}
    (hcl : clausesOf e = g :: gs) (hs : ∀ x, foldedSetIterable g.iter env x = pure x) (hclos : closureFor scope env = pure cl)
    (hkind : scope.kind = .function) (hnames : ∀ x ∈ scope.names, x.2 = .local → scope.names.lookup x.1 = some .local)
    (h : wpAny M A first (fun x s₁ => wpAny M A (pyIter x) (fun it s₂ => wpAny M A newAcc (fun acc s₃ =>
      wpAny M A (newFunctionEnv scope env.globals cl [] env.qual none .none (some env)) (fun cenv s₄ =>
        codeAny M A (.compStart e 0 it acc { cenv with scope := relabel scope env }) (compPostE M A E use Q acc { cenv with scope := relabel scope env }) s₄) E s₃) E s₂) E s₁) E s) :
    wpAny M A (comprehension e scope env pos newAcc false first use) Q E s := by
  unfold comprehension
  rw [hclos, hcl]
  refine wpAny_bind (wpAny_mono h (fun x s₁ h₁ => wpAny_bind (wpAny_standAt (wpAny_bind (wpAny_of_eq (hs x) (wpAny_bind (wpAny_holding (wpAny_mono h₁ (fun it s₂ h₂ =>
    wpAny_standIf (wpAny_bind (wpAny_mono h₂ (fun acc s₃ h₃ => wpAny_bind (wpAny_pure (wpAny_bind (wpAny_mono h₃ (fun cenv s₄ h₄ => ?_) fun _ _ h' => h')))) fun _ _ h' => h')))
      fun _ _ h' => h'))))))) fun _ _ h' => h')
  dsimp only
  have hv : ∀ x ∈ (scope.names.filter fun x => (x.2 == .local || x.2 == .cell) && x.1 != (".0" : Str)).reverse, x.2 = .local →
      Env.kindOf { cenv with scope := relabel scope env } x.1 = some .local := fun x hx hl => lookup_relabel_local (hnames x (List.mem_filter.mp (List.mem_reverse.mp hx)).1 hl)
  have hv' : ∀ x ∈ (scope.names.filter fun x => (x.2 == .local || x.2 == .cell) && x.1 != (".0" : Str)).reverse.drop 1 ++ (scope.names.filter fun x => (x.2 == .local || x.2 == .cell) && x.1 != (".0" : Str)).reverse.take 1,
      x.2 = .local → Env.kindOf { cenv with scope := relabel scope env } x.1 = some .local := fun x hx hl => by
    rcases List.mem_append.mp hx with h1 | h1
    · exact hv x (List.mem_of_mem_drop h1) hl
    · exact hv x (List.mem_of_mem_take h1) hl
  refine wpAny_holding (wpAny_bind (wpAny_attempt (wpAny_holding (wpAny_run (codeAny_mono h₄ fun r s' hr => ?_)))))
  cases r with
  | ok f =>
    cases use with
    | none =>
      obtain ⟨m, hn, hr⟩ := hr
      exact wpAny_bind (wpAny_holding (wpAny_comp_letGo (cenv := { cenv with scope := relabel scope env }) hkind _ s' m hv hn fun h' m' _ hs' => wpAny_pure (hr h' hs')))
    | some u =>
      refine wpAny_bind (wpAny_rule (wpAny_bind (wpAny_holding (wpAny_mono hr (fun _ s'' hr' => ?_) fun _ _ h' => h'))))
      obtain ⟨m, hn, hr'⟩ := hr'
      exact wpAny_bind (wpAny_comp_letGo (cenv := { cenv with scope := relabel scope env }) hkind _ s'' m hv' hn fun h' m' _ hs' => wpAny_pure (hr' h' hs'))
  | error x =>
    obtain ⟨m, hn, hr⟩ : ∃ m, s'.heap.Ns cenv.locals m ∧ ∀ h', Heap.SameBut cenv.locals s'.heap h' → wpAny M A (passOn "comprehension.variables-let-go" x { cenv with scope := relabel scope env } : Sem Value) (fun _ _ => False) E { s' with heap := h' } := by cases use <;> exact hr
    exact wpAny_bind (wpAny_holding (wpAny_comp_letGo (cenv := { cenv with scope := relabel scope env }) hkind _ s' m hv hn fun h' m' _ hs' => wpAny_mono (hr h' hs') (fun _ _ f => f.elim) fun _ _ y => y))
end
theorem funFrames_but {h h' base base' : Heap} : ∀ {l : List Env}, h.FunFrames base l → (∀ L ∈ frs l, h'.get? L = h.get? L) → (∀ L ∈ frs l, base'.get? L = none) → h'.FunFrames base' l
  | [], _, _, _ => trivial
  | env :: l, hl, k, kb => by
    obtain ⟨hk, ⟨L, o, hf, hn, ho, hd⟩, hr⟩ := hl
    have hm : L ∈ frs (env :: l) := List.mem_filterMap.mpr ⟨env, List.mem_cons_self, hf⟩
    have sub : ∀ b ∈ frs l, b ∈ frs (env :: l) := fun b hb => by
      obtain ⟨e, he, q⟩ := List.mem_filterMap.mp hb
      exact List.mem_filterMap.mpr ⟨e, List.mem_cons_of_mem _ he, q⟩
    exact ⟨hk, ⟨L, o, hf, kb L hm, (k L hm).trans ho, hd⟩, funFrames_but hr (fun b hb => k b (sub b hb)) fun b hb => kb b (sub b hb)⟩
theorem noteFrame_frame {e : Value} {env env' : Env} (h : env'.frame = env.frame) : noteFrame e env' = noteFrame e env := by
  unfold noteFrame PySem.frameOf
  rw [h]
section
variable {X : Cx} {pins : List (Addr × Obj)} {σ : L2.St} {H : Hp} {s s' : Shared}
/-- a call's exception, its ground told -/
theorem air_of_call (I : Inv X pins σ H s) {a : Addr} {B : Heap} {H' : Hp} {Z : Obj → Prop} (fl : HandSPX.FlyingZ B X.stack a Z s'.heap) (hok : HOk X.prog X.w H' B) (ub : UB (frs X.stack) H H' s.heap B s'.heap) (os : s'.os = s.os) (ag : AllBare s'.gens) :
    ∃ sI : Shared, Inv X pins σ H' sI ∧ (∀ b o, sI.heap.get? b = some o → b ∉ frs X.stack → B.get? b = some o) ∧ sI.heap.UpToSlots s'.heap ∧ s'.os = sI.os := by
  obtain ⟨G, g1, g2⟩ := restrict s'.heap fun b => (B.get? b).isSome || decide (b ∈ frs X.stack)
  have st : B.StaysIn s'.heap := fl.1
  have gB : ∀ b o, B.get? b = some o → G.get? b = some o := fun b o e => by
    rw [g1 b (by simp [e])]
    exact st b o e
  have gF : ∀ b, b ∈ frs X.stack → G.get? b = s'.heap.get? b := fun b hb => g1 b (by simp [hb])
  have og : ∀ b o, G.get? b = some o → s'.heap.get? b = some o ∧ ((B.get? b).isSome = true ∨ b ∈ frs X.stack) := fun b o e => by
    cases q : ((B.get? b).isSome || decide (b ∈ frs X.stack)) with
    | false => rw [g2 b q] at e; cases e
    | true =>
      rw [g1 b q] at e
      exact ⟨e, by simpa [Bool.or_eq_true] using q⟩
  refine ⟨{ s with heap := G, gens := s'.gens, drawn := s'.drawn, toks := s'.toks }, ?_, fun b o e hb => ?_, Heap.UpToSlots.of_keeps fun b o e => (og b o e).1, os⟩
  · refine I.call (ch := []) ⟨fun b o e n hb _ => gB b o (ub.keep b o e n hb), fun b o e n hb _ => ?_, fun b o e n _ => ub.free b o e n, fun b o e _ => ?_, ub.tups, ub.frzs, ub.tbls⟩ (hok.kept gB) ag (fun _ z => nomatch z)
    · obtain ⟨sl, q⟩ := ub.slot b o e hb
      exact ⟨sl, by rw [gF b hb]; exact q⟩
    · by_cases hb : b ∈ frs X.stack
      · obtain ⟨sl, q⟩ := ub.slot b o e hb
        exact ⟨_, by rw [gF b hb]; exact q⟩
      · obtain ⟨o', q⟩ := ub.there b o e hb
        exact ⟨o', gB b o' q⟩
  · obtain ⟨e', h⟩ := og b o e
    rcases h with h | h
    · obtain ⟨o', q⟩ := Option.isSome_iff_exists.mp h
      have z := st b o' q
      rw [e'] at z; cases z
      exact q
    · exact absurd h hb
/-- the block's exception: noted by the def's frame, the block's locals let go, passed on -/
theorem comp_out {E : XK} {C a : Addr} {B : Heap} {H8 H' : Hp} {sc : Shared} {cls : Value} {d : Option Addr} {ce : Env} {use : Option (Value → Sem Unit)} {Q : Value → Shared → Prop} {acc : Value} {E2 : Value → Shared → Prop} (hs : X.stack = X.env :: X.outer) (hf : X.env.frame = some X.env.locals) (tk : L2N.Takes X (fun cls d _ H => E cls d H))
    (hcf : ce.frame = X.env.frame) (hcl : ce.locals = C) (I7 : Inv X pins σ H8 sc) (nC : H8 C = none) {m : Str → Option Value} (hn : sc.heap.Ns C m) (fp : ∀ H', H' C = none → FpOk X pins H' C)
    (fl : HandSPX.FlyingZ B X.stack a (L2N.Zn cls d) s'.heap) (hok : HOk X.prog X.w H' B) (ub : UB (frs X.stack) H8 H' sc.heap B s'.heap) (na : H' a = none) (os : s'.os = sc.os) (ag : AllBare s'.gens) (hE : E cls d H') :
    wpAny (model X.prog X.w) X.A (noteFrame (.ref a) ce) (fun _ s'' => compPostE (model X.prog X.w) X.A X.xe use Q acc ce (.error (.ref a)) s'') E2 s' := by
  have hfr : X.A.frames = some (X.env :: X.outer) := by rw [I7.ok.frames, hs]
  obtain ⟨sI, I8, nb, up, os2⟩ := air_of_call I7 fl hok ub os ag
  obtain ⟨oC, es, ep, hC, hdC, hnC⟩ := hn
  have nC' : H' C = none := ub.free C oC hC nC
  obtain ⟨f0, f1, f2, f3, f4, f5⟩ := fp H' nC'
  have nst : C ∉ frs X.stack := fun hm => (List.mem_cons.mp (I8.stkSub C hm)).elim f1 f2
  have hBC : B.get? C = some oC := ub.keep C oC hC nC nst
  rw [noteFrame_frame hcf]
  have fl' : HandSPX.FlyingZ B (X.env :: X.outer) a (L2N.Zn cls d) s'.heap := by rw [← hs]; exact fl
  refine PXN.looks_onZ L2N.Zn.steady hfr hf fl' fun h1 hh up1 => ?_
  have h1C : h1.get? C = some oC := hh.1 C oC hBC
  suffices hz : ∃ m, h1.Ns ce.locals m ∧ ∀ h', Heap.SameBut ce.locals h1 h' → wpAny (model X.prog X.w) X.A (passOn "comprehension.variables-let-go" (.ref a) ce : Sem Value) (fun _ _ => False) X.xe { s' with heap := h' } by cases use <;> exact hz
  refine ⟨m, by rw [hcl]; exact ⟨oC, es, ep, h1C, hdC, hnC⟩, fun h2 sb => ?_⟩
  rw [hcl] at sb
  -- the ground and the state without the block's locals
  have notC : ∀ {b : Addr} {o : Obj}, h1.get? b = some o → (∃ vs, o.data = .fields vs) → b ≠ C := fun {b o} e ⟨vs, hv⟩ z => by
    rw [z, h1C] at e
    cases e
    rw [hdC] at hv
    cases hv
  have gB : ∀ b o, (PySem.W.hideAll B [C]).get? b = some o → B.get? b = some o ∧ b ≠ C := fun b o e => ⟨PySem.W.of_hideAll _ e, fun z => by
    rw [z, PySem.W.hideAll_none [C] (List.mem_singleton.mpr rfl)] at e
    cases e⟩
  have hh2 : HandSPX.HeldZ (PySem.W.hideAll B [C]) (X.env :: X.outer) a (L2N.Zn cls d) X.env.locals h2 := by
    obtain ⟨k1, k2, k3, oe, vs, T, oT, ts, he, hz, hd, hv, hnT, hTe, hT, hdT, h3⟩ := hh
    refine ⟨fun b o e => ?_, ?_, ?_, oe, vs, T, oT, ts, ?_, hz, hd, hv, ?_, hTe, ?_, hdT, h3⟩
    · obtain ⟨e1, e2⟩ := gB b o e
      exact (sb.2 b e2).trans (k1 b o e1)
    · cases q : (PySem.W.hideAll B [C]).get? a with
      | none => rfl
      | some o =>
        have z := (gB a o q).1
        rw [k2] at z; cases z
    · refine funFrames_but k3 (fun L hL => sb.2 L fun z => nst (by rw [hs, ← z]; exact hL)) fun L hL => ?_
      cases q : (PySem.W.hideAll B [C]).get? L with
      | none => rfl
      | some o =>
        have z := (gB L o q).1
        rw [(k3.mem hL).1] at z; cases z
    · exact (sb.2 a (notC he ⟨_, hd⟩)).trans he
    · cases q : (PySem.W.hideAll B [C]).get? T with
      | none => rfl
      | some o =>
        have z := (gB T o q).1
        rw [hnT] at z; cases z
    · exact (sb.2 T (notC hT ⟨_, hdT⟩)).trans hT
  have I9 : Inv X pins σ H' { sI with heap := PySem.W.hideAll sI.heap [C] } := I8.turned (t' := sI.toks) (it := C) (fun b o hb e => PySem.W.hideAll_get _ e (by simpa using hb)) f0 f1 f3 f4 f5
  have gS : ∀ b o, (PySem.W.hideAll sI.heap [C]).get? b = some o → sI.heap.get? b = some o ∧ b ≠ C := fun b o e => ⟨PySem.W.of_hideAll _ e, fun z => by
    rw [z, PySem.W.hideAll_none [C] (List.mem_singleton.mpr rfl)] at e
    cases e⟩
  have nb2 : ∀ b o, (PySem.W.hideAll sI.heap [C]).get? b = some o → b ∉ frs X.stack → (PySem.W.hideAll B [C]).get? b = some o := fun b o e hb => by
    obtain ⟨e1, e2⟩ := gS b o e
    exact PySem.W.hideAll_get _ (nb b o e1 hb) (by simpa using e2)
  have up2 : (PySem.W.hideAll sI.heap [C]).UpToSlots h2 := fun b o e hd => by
    obtain ⟨e1, e2⟩ := gS b o e
    obtain ⟨sl, q⟩ := (up.trans up1) b o e1 hd
    exact ⟨sl, (sb.2 b e2).trans q⟩
  obtain ⟨_, _, _, oe, vs, T, oT, ts, he, hz, hd, hv, hnT, hTe, hT, hdT, h3⟩ := id hh2
  unfold PySem.passOn
  refine wpAny_bind (wpAny_field he hd hv ?_)
  rw [if_neg (show ¬ ((Value.ref T == Value.none) = true) from by simp)]
  have fin : wpAny (model X.prog X.w) X.A (setFlight (.ref a) ce.frame) (fun _ s4 => wpAny (model X.prog X.w) X.A (throw (.ref a) : Sem Value) (fun _ _ => False) X.xe s4) X.xe { s' with heap := h2 } := by
    rw [hcf, hf]
    refine HandSPX.setFlight_onZ hh2 fun h4 hh4 up4 => wpAny_throw (tk _ _ ?_)
    exact ⟨a, PySem.W.hideAll B [C], { sI with heap := PySem.W.hideAll sI.heap [C] }, pins, σ, H', cls, d, rfl, I9, nb2, up2.trans up4, .inr (.inr (by rw [hs]; exact hh4)), na, os2, ag, hE⟩
  first
    | exact wpAny_bind (wpAny_pure (wpAny_bind fin))
    | exact wpAny_bind fin
end
/-- the block's context, what is wished of an exception left open -/
abbrev Cx.blkE (X : Cx) (s : Shared) (H : Hp) (scope : Scope) (cenv : Env) (fp : List Addr) (xe : Value → Shared → Prop) : Cx := (X.blk s H scope cenv fp).tr [] xe
section
variable {X : Cx}
/-- [elt for target in iter if ..], the element may raise -/
theorem lc_coreE {pins : List (Addr × Obj)} {s : Shared} {σ : L2.St} {H : Hp} {Q : VK} {use : Option (Value → Sem Unit)} {Qf : Value → Shared → Prop} {pos' : Pos} {elt tg iter : Expr} {ifs : List Expr} {scope : Scope} {own : List (Str × Nat)} {pos : Pos} {wi : TI} {g : TG} {tt : TT} {te : TE} {E : XK} (hc : X.calm = true) (hN : X.N.Nodup) (hst : X.stack = X.env :: X.outer) (hf : X.env.frame = some X.env.locals) (tk : L2N.Takes X (fun cls d _ H => E cls d H))
    (hi : PI X tg iter wi) (ok : BlkOk X.N X.env.scope scope own)
    (hg : ∀ (s : Shared) (H : Hp) (C : Addr) (cl : List (Str × Addr)) (fp : List Addr) (xe : Value → Shared → Prop), PG (Cx.blkE X s H scope (compEnvC scope cl C X.env) fp xe) tg g)
    (ht : ∀ (s : Shared) (H : Hp) (C : Addr) (cl : List (Str × Addr)) (fp : List Addr) (xe : Value → Shared → Prop), PTs (Cx.blkE X s H scope (compEnvC scope cl C X.env) fp xe) ifs tt)
    (he : ∀ (s : Shared) (H : Hp) (C : Addr) (cl : List (Str × Addr)) (fp : List Addr) (xe : Value → Shared → Prop), (∀ σ, PassesAt (CxK.cx X.prog X.w) (Cx.blkE X s H scope (compEnvC scope cl C X.env) fp xe) σ E) → PE (Cx.blkE X s H scope (compEnvC scope cl C X.env) fp xe) elt te)
    (hs : ∀ x, foldedSetIterable iter X.env x = pure x) (I : Inv X pins σ H s) (h : tLc wi g tt te (own.map (·.2)) σ H Q)
    (hRR : ∀ D C s' m H', Inv X pins σ H' s' → Q (.ref D) H' → s'.heap.Ns C m → FpOk X pins H' C → ∀ cenv : Env, cenv.locals = C → compPostE (model X.prog X.w) X.A X.xe use Qf (.ref D) cenv (.ok .next) s') :
    wpAny (model X.prog X.w) X.A (comprehension (.ListComp elt [⟨tg, iter, ifs, 0⟩] scope pos) scope X.env pos' (newList []) false (eval iter X.env) use) Qf X.xe s := by
  have hfree : ∀ y ∈ scope.names, y.2 = .free → ∃ c, X.env.cells.lookup y.1 = some c := fun y hy e => by
    rcases ok.free y hy e with k | k
    · exact I.ok.has _ (.inl k)
    · exact I.ok.has _ (.inr k)
  refine comprehension_freeE rfl hs (closure_ok hfree) ok.kind (fun y hy e => by rw [ok.uniq y hy, e])
    (thn (hi.run pins s σ H _ I h) fun xv s1 hx => thn hx fun itv s2 h2 => ?_)
  obtain ⟨it, fp, tn, J, H2, e, I2, T, st2, f2, q⟩ := h2
  subst e
  refine wpAny_newObj_type (newEnv_comp ?_) (by show 0 ≤ sizeLine; decide)
  generalize hD : s2.heap.objs.size = D
  have hDn : H2 D = none := I2.hok.fresh (Nat.le_of_eq hD)
  obtain ⟨W, ⟨m0, w0⟩, turn⟩ := q D hDn
  generalize hs3 : ({ s2 with heap := s2.heap.push { cls := .type "list", data := .seq ([] : List Value).toArray } } : Shared) = s3
  have I3 : Inv X pins σ (upd H2 D (.lst [])) s3 := by
    rw [← hs3]
    refine I2.laid (t' := s2.toks) (fun b o e => Heap.get?_push_of_some _ e) (Nat.le_of_eq hD) ⟨Nat.zero_le _, [], 0, .nil, ?_⟩
    rw [← hD]
    exact Heap.get?_push_size _ rfl
  have h3 : s3.heap = s2.heap.push { cls := .type "list", data := .seq ([] : List Value).toArray } := by rw [← hs3]
  have sz : ∀ b ∈ fp, b < s2.heap.objs.size := fun b hb => by
    obtain ⟨o, e, _⟩ := T.obj _ _ st2 b hb
    exact Heap.lt_size e
  have f3 : ∀ b ∈ fp, FpOk X pins (upd H2 D (.lst [])) b ∧ b < s3.heap.objs.size := fun b hb => by
    have hlt := sz b hb
    refine ⟨⟨?_, (f2 b hb).2⟩, by rw [h3, Heap.size_push]; exact Nat.lt_succ_of_lt hlt⟩
    rw [upd_ne (by rw [← hD]; exact Nat.ne_of_lt hlt)]
    exact (f2 b hb).1
  have st3 : tn 0 s3.heap := T.keep _ _ _ st2 fun b _ o e => by rw [h3]; exact Heap.get?_push_of_some _ e
  have I4 := block_start I3 ok hN f3
  have pg := hg s3 (upd H2 D (.lst [])) s3.heap.objs.size (cellsFrom (s3.heap.objs.size + 1) scope.names (cloFrom X.env.cells scope.names [])) fp
  have pt := ht s3 (upd H2 D (.lst [])) s3.heap.objs.size (cellsFrom (s3.heap.objs.size + 1) scope.names (cloFrom X.env.cells scope.names [])) fp
  have pe := he s3 (upd H2 D (.lst [])) s3.heap.objs.size (cellsFrom (s3.heap.objs.size + 1) scope.names (cloFrom X.env.cells scope.names [])) fp
  show codeAny _ _ (.compStart (.ListComp elt [⟨tg, iter, ifs, 0⟩] scope pos) 0 (.ref it) (.ref D) (compEnvC scope (cellsFrom (s3.heap.objs.size + 1) scope.names (cloFrom X.env.cells scope.names [])) s3.heap.objs.size X.env)) (compPostE (model X.prog X.w) X.A X.xe use Qf (.ref D) (compEnvC scope (cellsFrom (s3.heap.objs.size + 1) scope.names (cloFrom X.env.cells scope.names [])) s3.heap.objs.size X.env)) { s3 with heap := pushCells (s3.heap.push { cls := .type "dict", data := .dict #[] }) scope.names }
  have nfp : ∀ b ∈ fp, (upd H2 D (.lst [])) b = none := fun b hb => (f3 b hb).1.1
  generalize hce : compEnvC scope (cellsFrom (s3.heap.objs.size + 1) scope.names (cloFrom X.env.cells scope.names [])) s3.heap.objs.size X.env = ce at I4 pg pt pe ⊢
  have cL : ce.locals = s3.heap.objs.size := by subst hce; rfl
  have cF : ce.frame = X.env.frame := by subst hce; rfl
  generalize hH3 : upd H2 D (.lst []) = H3 at I3 I4 pg pt pe w0 nfp f3
  generalize hs4 : ({ s3 with heap := pushCells (s3.heap.push { cls := .type "dict", data := .dict #[] }) scope.names } : Shared) = s4 at I4 ⊢
  have st4 : tn 0 s4.heap := T.keep _ _ _ st3 fun b _ o e => by rw [← hs4]; exact pushCells_keeps _ _ _ _ (Heap.get?_push_of_some _ e)
  -- what is wished of the element's exceptions
  generalize hxe : notedBy (model X.prog X.w) X.A ce (fun e s' => compPostE (model X.prog X.w) X.A X.xe use Qf (.ref D) ce (.error e) s') = xe0
  have I4y : Inv (Cx.blkE X s3 H3 scope ce fp xe0) [] (wipe σ (own.map (·.2))) H3 s4 := I4.toTry xe0
  have back : ∀ {σ' : L2.St} {pins' : List (Addr × Obj)} {H' : Hp} {s' : Shared}, Inv (Cx.blkE X s3 H3 scope ce fp xe0) pins' σ' H' s' → Inv X pins σ H' s' := fun {σ' pins' H' s'} J =>
    I3.call' (ch := fp) J.os J.base J.hok J.bare fun b hb => ⟨(f3 b hb).1.2.2.2.1, (f3 b hb).1.2.1, (f3 b hb).1.2.2.2.2.1, (f3 b hb).1.2.2.2.2.2⟩
  have pass : ∀ σ8, PassesAt (CxK.cx X.prog X.w) (Cx.blkE X s3 H3 scope ce fp xe0) σ8 E := fun σ8 pins8 H8 sc e s' I8 c => by
    obtain ⟨a, B, H', cls, d, rfl, fl, hok, ub, na, os, ag, hE⟩ := c
    have nC : H8 s3.heap.objs.size = none := by
      have z : H8 ce.locals = none := I8.free
      rw [cL] at z
      exact z
    obtain ⟨m, hn, _⟩ := I8.loc
    have hn : sc.heap.Ns ce.locals m := hn
    rw [cL] at hn
    show xe0 (.ref a) s'
    rw [← hxe]
    exact comp_out hst hf tk cF cL (back I8) nC hn (fun H' n => I3.fpOk (Nat.le_refl _) n) fl hok ub na os ag hE
  have pg' := pg xe0
  have pt' := pt xe0
  have pe' := pe xe0 pass
  have stat : ∀ {σ' : L2.St} {H' : Hp} {s' : Shared}, Inv (Cx.blkE X s3 H3 scope ce fp xe0) [] σ' H' s' → (∀ b ∈ fp, H' b = none) → ∀ b ∈ fp, FpOk (Cx.blkE X s3 H3 scope ce fp xe0) [] H' b := fun {σ' H' s'} I' hn b hb =>
    ⟨hn b hb, (I'.ok.exf b hb).1, I'.ok.exfs b hb, .inl hb, fun x c e => (I'.ok.exf b hb).2 x c e, fun p hp => absurd (show p ∈ ([] : List (Addr × Obj)) ++ [] from hp) (by simp)⟩
  have loop : codeAny (model X.prog X.w) X.A (.compLoop (.ListComp elt [⟨tg, iter, ifs, 0⟩] scope pos) 0 (.ref it) (.ref D) ce) (compPostE (model X.prog X.w) X.A X.xe use Qf (.ref D) ce) s4 := by
    refine compLoop_any (fun n s' => ∃ i H', Inv (Cx.blkE X s3 H3 scope ce fp xe0) [] (wipe σ (own.map (·.2))) H' s' ∧ tn i s'.heap ∧ (∀ b ∈ fp, H' b = none) ∧ W i n H') ?_ m0 ⟨0, H3, I4y, st4, nfp, w0⟩
    rintro n s5 ⟨i, H5, I5, st5, n5, w5⟩
    rw [hxe]
    rcases turn i n H5 w5 with ⟨stop, qq⟩ | ⟨go, Nx, hNx, step⟩
    · have td := T.done (Cx.blkE X s3 H3 scope ce fp xe0) rfl rfl rfl hc i [] s5 _ H5 (fun _ _ => False) I5 (stat I5 n5) st5 stop
      refine thnF td fun r s6 ⟨hr, I6⟩ => ?_
      subst hr
      have I7 : Inv X pins σ H5 s6 := back I6
      have nC : H5 s3.heap.objs.size = none := by
        have z : H5 ce.locals = none := I6.free
        rw [cL] at z
        exact z
      obtain ⟨m, hn, _⟩ := I6.loc
      have hn : s6.heap.Ns ce.locals m := hn
      rw [cL] at hn
      exact hRR D s3.heap.objs.size s6 m H5 I7 qq hn (I3.fpOk (Nat.le_refl _) nC) ce cL
    · have ti := T.item (Cx.blkE X s3 H3 scope ce fp xe0) rfl rfl rfl hc i [] s5 _ H5 (fun _ _ => False) I5 (stat I5 n5) st5 go
      refine thnF ti fun r s6 ⟨u, hr, h6⟩ => ?_
      subst hr
      refine thnF h6 fun _ s7 ⟨x, H7, I7, r7, y7, st7, n7⟩ => ?_
      have I7' := I7.pinned (stat I7 n7) (T.obj _ _ st7)
      refine thn (pg'.run _ s7 _ H7 x u _ I7' r7 (step x H7 y7)) fun _ s8 ⟨σ8, H8, I8, hw8, q8⟩ => ?_
      refine thn (pt'.run _ s8 σ8 H8 _ I8 q8) fun b s9 ⟨H9, I9, q9⟩ => ?_
      have fin : ∀ {s' : Shared} {H' : Hp}, Inv (Cx.blkE X s3 H3 scope ce fp xe0) ([] ++ pinsAt fp s7.heap) σ8 H' s' → Nx H' → ∃ m, m < n ∧ ∃ i H', Inv (Cx.blkE X s3 H3 scope ce fp xe0) [] (wipe σ (own.map (·.2))) H' s' ∧ tn i s'.heap ∧ (∀ b ∈ fp, H' b = none) ∧ W i m H' := fun {s' H'} I' nx => by
        obtain ⟨m', hm, w'⟩ := hNx H' nx
        have pin' : ∀ b ∈ fp, ∀ o, s7.heap.get? b = some o → s'.heap.get? b = some o ∧ H' b = none := fun b hb o e =>
          let z := I'.pin (b, o) (List.mem_append_right _ (List.mem_append_right _ (mem_pinsAt hb e)))
          ⟨z.1, z.2.1⟩
        have hl : (wipe σ (own.map (·.2))).length = σ8.length := by rw [← hw8, wipe_length]
        refine ⟨m', hm, i + 1, H', (I'.unpinned (pins := [])).weak hl (fun j v e => ?_), T.keep _ _ _ st7 fun b hb o e => (pin' b hb o e).1, fun b hb => ?_, w'⟩
        · rw [← hw8] at e
          exact (wipe_some e).1
        · obtain ⟨o, e, _⟩ := T.obj _ _ st7 b hb
          exact (pin' b hb o e).2
      cases b with
      | false =>
        simp only [Bool.false_eq_true, if_false] at q9 ⊢
        exact fin I9 q9
      | true =>
        simp only [if_true] at q9 ⊢
        refine thn (pe'.run _ s9 σ8 H9 _ I9 q9) fun z s10 ⟨yv, H10, I10, r10, acc, hD10, hz10, nx⟩ => ?_
        exact app_ok (X := Cx.blkE X s3 H3 scope ce fp xe0) I10 hD10 hz10 r10 fun s11 I11 => fin I11 nx
  exact codeAny_compStart_list loop (T.self X.A 0 _ _ _ st4 loop)
variable {elt tg iter : Expr} {ifs : List Expr} {scope : Scope} {own : List (Str × Nat)} {pos : Pos} {wi : TI} {g : TG} {tt : TT} {te : TE} {E : XK}
/-- name = [..] on one line, the name a local -/
theorem ps_setLcE {i : Nat} {y : Str} {py spos : Pos} (hc : X.calm = true) (hN : X.N.Nodup) (hy : X.N[i]? = some y) (hyl : X.env.scope.names.lookup y = some .local)
    (hsw : swapsWith (.ListComp elt [⟨tg, iter, ifs, 0⟩] scope pos) (some (.Name y py)) spos.line X.env = pure true) (hst : X.stack = X.env :: X.outer) (hf : X.env.frame = some X.env.locals) (tk : L2N.Takes X (fun cls d _ H => E cls d H))
    (hi : PI X tg iter wi) (ok : BlkOk X.N X.env.scope scope own)
    (hg : ∀ (s : Shared) (H : Hp) (C : Addr) (cl : List (Str × Addr)) (fp : List Addr) (xe : Value → Shared → Prop), PG (Cx.blkE X s H scope (compEnvC scope cl C X.env) fp xe) tg g)
    (ht : ∀ (s : Shared) (H : Hp) (C : Addr) (cl : List (Str × Addr)) (fp : List Addr) (xe : Value → Shared → Prop), PTs (Cx.blkE X s H scope (compEnvC scope cl C X.env) fp xe) ifs tt)
    (he : ∀ (s : Shared) (H : Hp) (C : Addr) (cl : List (Str × Addr)) (fp : List Addr) (xe : Value → Shared → Prop), (∀ σ, PassesAt (CxK.cx X.prog X.w) (Cx.blkE X s H scope (compEnvC scope cl C X.env) fp xe) σ E) → PE (Cx.blkE X s H scope (compEnvC scope cl C X.env) fp xe) elt te)
    (hs : ∀ x, foldedSetIterable iter X.env x = pure x := by intro _; rfl) :
    PS X (.Assign [.Name y py] (.ListComp elt [⟨tg, iter, ifs, 0⟩] scope pos) spos) (tAsg (tLc wi g tt te (own.map (·.2))) (gName i)) := by
  refine ⟨fun pins s σ H D I h => ?_⟩
  rw [exec_Assign_Name_used _ _ _ _ hsw]
  refine wpAny_bind (wpAny_standAt (wpAny_bind ?_))
  show wpAny _ X.A (do let _ ← comprehension (.ListComp elt [⟨tg, iter, ifs, 0⟩] scope pos) scope X.env (firstIterPos [⟨tg, iter, ifs, 0⟩] pos) (newList []) false (eval iter X.env) (some (assign (.Name y py) X.env))) _ _ s
  have h : tLc wi g tt te (own.map (·.2)) σ H (fun x H1 => gName i x σ H1 D.nx) := h
  refine wpAny_bind (thn (lc_coreE (Qf := fun _ s' => SP X pins D .next s') hc hN hst hf tk hi ok hg ht he hs I h fun L C s' m H' I' q hn f cenv hce => ?_) fun _ s' hq => wpAny_pure (wpAny_pure hq))
  subst hce
  show wpAny _ _ (assign (.Name y py) X.env (.ref L)) _ _ _
  refine wpAny_assign_Name (store_ok2 (v := V.ref L) I' hN hy (.inl hyl) rfl (fun s2 I2 ⟨a, sb, ha⟩ => ?_) (.inr hyl))
  obtain ⟨f0, f1, f2, f3, f4, f5⟩ := f
  have haC : cenv.locals ≠ a := by
    rcases ha with z | z
    · rw [z]; exact f1
    · exact fun e => f4 y a z e.symm
  refine ⟨m, hn.sameBut sb haC, fun h3 sb3 => ?_⟩
  exact ⟨_, H', I2.turned (t' := s2.toks) (fun b o hb e => (sb3.2 b hb).trans e) f0 f1 f3 f4 f5, q⟩
end
end Mir
end
section
set_option Elab.async false
set_option linter.all false
set_option maxRecDepth 100000
set_option maxHeartbeats 4000000
namespace Mir
open PySem PySem.Spec PyProof.Rows L2
def lcGoE (vs : List Nat) (gm : Gm) (t : Tm) (m : Em) : List D → Am
  | [], en => .ok ([], en)
  | d :: ds, en => (gm d en).calm.bind fun en1 => (t en1).calm.bind fun p => if p.1 = true then
      (m p.2).bind fun q => (lcGoE vs gm t m ds (wipeE q.2 vs)).bind fun r => .ok (q.1 :: r.1, r.2)
    else lcGoE vs gm t m ds (wipeE p.2 vs)
def lLcE (im : Im) (vs : List Nat) (gm : Gm) (t : Tm) (m : Em) : Am := fun en => (im en).bind fun p => if noOwn p.2 vs = true ∧ p.1.length ≤ big then
    (lcGoE vs gm t m p.1 (wipeE p.2 vs)).bind fun r => .ok (r.1, restE p.2 r.2 vs)
  else .stk
section
variable {K : PySem.W.Frag} {mg : Str → Option Value} {E : XK} {F : Fm} {σ : L2.St} {G G' H H' : Hp} {en : En}
/-- what is wished of the loop's end -/
def LcEnd (K : PySem.W.Frag) (mg : Str → Option Value) (E : XK) (F : Fm) (σ : L2.St) (G : Hp) (L : Addr) (da : List D) (Qd : Hp → Prop) : Rs (List D × En) → Prop
  | .ok (ds', enF) => ∀ G' H' acc, Gd K F G' H' σ enF → Same G G' → G' L = none → H' L = some (.lst acc) → DpAll K G' acc (da ++ ds') → Free K G' H' σ enF L → Qd H'
  | .err c fs => ∀ cls dx H', ErrAt K mg F c fs cls dx H' → E cls dx H'
  | .stk => False
theorem LcEnd.up {L : Addr} {da : List D} {Qd : Hp → Prop} {x : Rs (List D × En)} (s : Same G G') (h : LcEnd K mg E F σ G L da Qd x) : LcEnd K mg E F σ G' L da Qd x := by
  cases x with
  | ok a => obtain ⟨ds, e⟩ := a; exact fun G2 H2 acc g s2 => h G2 H2 acc g (s.trans s2)
  | err c fs => exact h
  | stk => exact h
theorem lc_loopE {J : It} {ds : List D} {vs js : List Nat} {gt : TG} {gm : Gm} {tt : TT} {t : Tm} {te : TE} {m : Em} {L : Addr} {acc0 : List V} {da0 : List D} {en0 : En} {Qd : Hp → Prop}
    (hj : ∀ j ∈ js, j ∈ vs) (hg : SG K js gt gm) (ht : ST K mg (fun _ _ _ _ => False) tt t) (hm : SE K mg (fun _ => E) te m)
    (it : ItOk K G J ds) (g0 : Gd K F G H (wipe σ vs) en0) (hGL : G L = none) (h0L : F.H0 L = none) (hHL : H L = some (.lst acc0)) (hd0 : DpAll K G acc0 da0) (fr0 : Free K G H (wipe σ vs) en0 L) (hz0 : acc0.length + ds.length < sizeLine)
    (fin : LcEnd K mg E F (wipe σ vs) G L da0 Qd (lcGoE vs gm t m ds en0)) :
    ∃ W : Nat → Nat → Hp → Prop, (∃ k, W 0 k H) ∧ ∀ i k H, W i k H → (J.stop i H ∧ Qd H) ∨ (J.go i H ∧ ∃ Nx : Hp → Prop, (∀ H', Nx H' → ∃ k', k' < k ∧ W (i + 1) k' H') ∧ ∀ x H', J.yld i H x H' → gt x (wipe σ vs) H' fun σ2 H2 => wipe σ2 vs = wipe σ vs ∧ tt σ2 H2 fun b H3 =>
      if b = true then te σ2 H3 fun y H4 => ∃ acc, H4 L = some (.lst acc) ∧ acc.length < sizeLine ∧ Nx (upd H4 L (.lst (acc ++ [y]))) else Nx H3) := by
  refine ⟨fun i k H' => ∃ G' en' acc da, k = ds.length - i ∧ i ≤ ds.length ∧ Gd K F G' H' (wipe σ vs) en' ∧ Same G G' ∧ G' L = none ∧ H' L = some (.lst acc) ∧ DpAll K G' acc da ∧ acc.length ≤ acc0.length + i ∧ Free K G' H' (wipe σ vs) en' L ∧
    LcEnd K mg E F (wipe σ vs) G' L da Qd (lcGoE vs gm t m (ds.drop i) en'), ⟨ds.length, G, en0, acc0, da0, rfl, Nat.zero_le _, g0, Same.refl _, hGL, hHL, hd0, Nat.le_refl _, fr0, fin⟩, ?_⟩
  rintro i k H' ⟨G', en', acc, da, rfl, hi, g', s', hg', hh', hd', hda, fr', e'⟩
  obtain ⟨it1, it2⟩ := it i G' H' s' g'.gf.gh
  cases hd : ds[i]? with
  | none =>
    have hle := List.getElem?_eq_none_iff.mp hd
    rw [List.drop_eq_nil_of_le hle] at e'
    exact .inl ⟨it2 hd, e' G' H' acc g' (Same.refl _) hg' hh' (by rw [List.append_nil]; exact hd') fr'⟩
  | some d =>
    obtain ⟨go, yl⟩ := it1 d hd
    have hlt := (List.getElem?_eq_some_iff.mp hd).1
    rw [drop_some hd] at e'
    have e'' : LcEnd K mg E F (wipe σ vs) G' L da Qd ((gm d en').calm.bind fun en1 => (t en1).calm.bind fun p => if p.1 = true then
        (m p.2).bind fun q => (lcGoE vs gm t m (ds.drop (i + 1)) (wipeE q.2 vs)).bind fun r => .ok (q.1 :: r.1, r.2)
      else lcGoE vs gm t m (ds.drop (i + 1)) (wipeE p.2 vs)) := e'
    obtain ⟨en2, q2, e3⟩ := calm_bind (P := LcEnd K mg E F (wipe σ vs) G' L da Qd) id e''
    obtain ⟨⟨b, en3⟩, q3, e4⟩ := calm_bind (P := LcEnd K mg E F (wipe σ vs) G' L da Qd) id e3
    refine .inr ⟨go, fun H2 => ∃ G2 en2 acc2 da2, Gd K F G2 H2 (wipe σ vs) en2 ∧ Same G G2 ∧ G2 L = none ∧ H2 L = some (.lst acc2) ∧ DpAll K G2 acc2 da2 ∧ acc2.length ≤ acc0.length + (i + 1) ∧ Free K G2 H2 (wipe σ vs) en2 L ∧
      LcEnd K mg E F (wipe σ vs) G2 L da2 Qd (lcGoE vs gm t m (ds.drop (i + 1)) en2), fun H2 ⟨G2, en2, acc2, da2, z1, z2, z3, z5, z6, z7, z8, z9⟩ => ⟨ds.length - (i + 1), by omega, G2, en2, acc2, da2, rfl, by omega, z1, z2, z3, z5, z6, z7, z8, z9⟩, fun x H2 y => ?_⟩
    obtain ⟨G2, f2, dx⟩ := yl x H2 y
    have gR := g'.rebase
    have hz : ¬ (F.re K G' H' (wipe σ vs) en').Z L := by
      rintro ⟨j, mo, v, as, e1, e2, ow, ha⟩
      exact fr' j mo v as e1 e2 ow ha
    have hL0 : (F.re K G' H' (wipe σ vs) en').H0 L ≠ none := by
      show H' L ≠ none
      rw [hh']; exact fun z => by cases z
    have g2 := gR.grow f2
    refine hg.run _ (wipe σ vs) en' G2 H2 x d _ g2 dx ?_
    rw [show gm d en' = .ok en2 from q2]
    intro σ3 hl3 hk3 g3
    have hw : wipe σ3 vs = wipe σ vs := wipe_eq (by rw [hl3, wipe_length]) fun k hk => hk3 k fun z => hk (hj k z)
    refine ⟨hw, ?_⟩
    refine ht.run _ σ3 en2 G2 H2 _ g3 ?_
    rw [show t en2 = .ok (b, en3) from q3]
    intro G4 H4 g4 s4
    have at4 : H4 L = some (.lst acc) := g4.gf.pres L _ hh' hz
    have gn4 : G4 L = none := g4.gf.nf L hL0 hg' hz
    have sG4 : Same G' G4 := f2.g0.trans s4
    cases b with
    | false =>
      have gw := g'.back (g4.wipe (vs := vs))
      rw [hw] at gw
      have e5 : LcEnd K mg E F (wipe σ vs) G' L da Qd (lcGoE vs gm t m (ds.drop (i + 1)) (wipeE en3 vs)) := e4
      have frw := (g4.wipe (vs := vs)).free hL0 hz
      rw [hw] at frw
      exact ⟨G4, wipeE en3 vs, acc, da, gw, s'.trans sG4, gn4, at4, dpa_mono sG4 _ _ hd', by omega, frw, e5.up sG4⟩
    | true =>
      rw [if_pos rfl]
      have e5 : LcEnd K mg E F (wipe σ vs) G' L da Qd ((m en3).bind fun q => (lcGoE vs gm t m (ds.drop (i + 1)) (wipeE q.2 vs)).bind fun r => .ok (q.1 :: r.1, r.2)) := e4
      refine hm.run _ σ3 en3 G4 H4 _ g4 ?_
      cases q5 : m en3 with
      | stk => rw [q5] at e5; exact e5.elim
      | err c fs =>
        rw [q5] at e5
        exact fun cls dx H5 er => e5 cls dx H5 (ErrAt.back (F' := F.re K G' H' (wipe σ vs) en') g'.gf rfl rfl g'.zs er)
      | ok ze =>
        obtain ⟨z, en4⟩ := ze
        rw [q5] at e5
        have e6 : LcEnd K mg E F (wipe σ vs) G' L da Qd ((lcGoE vs gm t m (ds.drop (i + 1)) (wipeE en4 vs)).bind fun r => .ok (z :: r.1, r.2)) := e5
        intro v G5 H5 g5 s5 dv
        have at5 : H5 L = some (.lst acc) := g5.gf.pres L _ hh' hz
        have gn5 : G5 L = none := g5.gf.nf L hL0 hg' hz
        have sG5 : Same G' G5 := sG4.trans s5
        have gw := g'.back (g5.wipe (vs := vs))
        rw [hw] at gw
        have frw := (g5.wipe (vs := vs)).free hL0 hz
        rw [hw] at frw
        obtain ⟨ga, fa⟩ := gw.other (o := .lst (acc ++ [v])) gn5 h0L frw
        refine ⟨acc, at5, by omega, G5, wipeE en4 vs, acc ++ [v], da ++ [z], ga, s'.trans sG5, gn5, upd_same, dpa_app (dpa_mono sG5 _ _ hd') (dpa_one dv), by rw [List.length_append]; show acc.length + 1 ≤ _; omega, fa, ?_⟩
        cases q6 : lcGoE vs gm t m (ds.drop (i + 1)) (wipeE en4 vs) with
        | stk => rw [q6] at e6; exact e6.elim
        | err c fs => rw [q6] at e6; exact e6
        | ok r =>
          obtain ⟨dsr, enr⟩ := r
          rw [q6] at e6
          intro G6 H6 acc6 g6 s6 h1 h2 h3 h4
          refine e6 G6 H6 acc6 g6 (sG5.trans s6) h1 h2 ?_ h4
          rw [List.append_assoc] at h3
          exact h3
theorem sl_lcE {wi : TI} {im : Im} {vs js : List Nat} {gt : TG} {gm : Gm} {tt : TT} {t : Tm} {te : TE} {m : Em} (h : SI K mg (fun _ => E) wi im) (hj : ∀ j ∈ js, j ∈ vs) (hg : SG K js gt gm) (ht : ST K mg (fun _ _ _ _ => False) tt t) (hm : SE K mg (fun _ => E) te m) :
    SL K mg (fun _ => E) (tLc wi gt tt te vs) (lLcE im vs gm t m) := by
  refine ⟨fun F σ en G H Q g h0 => ?_⟩
  show wi σ H _
  refine si_bind h g (poL_err (E := fun _ => E) (σ := σ)) id h0 fun ds en1 J G1 H1 p1 g1 s1 it => ?_
  have p1' : PoL K mg E F σ G Q (if noOwn en1 vs = true ∧ ds.length ≤ big then (lcGoE vs gm t m ds (wipeE en1 vs)).bind fun r => .ok (r.1, restE en1 r.2 vs) else .stk) := p1
  split at p1'
  case isFalse => exact p1'.elim
  rename_i hno
  obtain ⟨no, hlen⟩ := hno
  intro L hL
  have hGL : G1 L = none := Same.free g1.gf.gh hL
  have f := gf0_new (o := .lst []) g1.gf.gh hL
  have gw := (g1.grow f).wipe (vs := vs)
  refine lc_loopE (Qd := fun H => Q (.ref L) H) (acc0 := []) (da0 := []) hj hg ht hm it gw hGL (h0_new g1 hL) upd_same .nil (free_new (g1.wipe (vs := vs)) hL f) (by
    show 0 + ds.length < sizeLine
    rw [Nat.zero_add]; exact Nat.lt_of_le_of_lt hlen (by decide)) ?_
  cases eF : lcGoE vs gm t m ds (wipeE en1 vs) with
  | stk => rw [eF] at p1'; exact p1'.elim
  | err c fs => rw [eF] at p1'; exact p1'
  | ok r =>
    obtain ⟨all, enF⟩ := r
    rw [eF] at p1'
    have pF : PoL K mg E F σ G Q (.ok (all, restE en1 enF vs)) := p1'
    intro G' H' acc g' s' hg' hh' hd' fr'
    refine pF L acc G' H' (g1.rest no s' g') (s1.trans s') hg' hh' hd' (h0_new g1 hL) fun j mo v as e1 e2 ow => ?_
    by_cases hj' : j ∈ vs
    · have hl : en1.length = enF.length := by rw [g1.len, g'.len, wipe_length]
      exact absurd (restE_at hl hj' e1) (noOwn_at no hj')
    · rw [restE_other hj'] at e1
      exact fr' j mo v as e1 (by rw [wipe_other hj']; exact e2) ow
end
end Mir
end
section
set_option Elab.async false
set_option linter.all false
set_option maxRecDepth 100000
set_option maxHeartbeats 4000000
namespace K42
open PySem PySem.Spec PyProof.Rows L2 Mir
def tbL_COUNTS : List (Str × Int) := [("fear", 2), ("calm", 2), ("answer", 3), ("wire", 3), ("unwire", 3), ("leave", 3), ("enter", 1)]
/-- slots: 0 _law_script -/
def m__law_feed : Am :=
  (aRetL (lLst (aCons (eL (lN fList (aCons (eVar 0) aNil))) (aCons (eC (.int 0)) (aCons (eC (.int 0)) (aCons (eC (.int 1181)) (aCons (eC (.int 733)) aNil)))))))
def M__law_feed : List D → Rs (List D) := fnO 1 1 m__law_feed
/-- slots: 0 _law_feed_here, 1 _law_many, 2 _law_cell, 3 _law_digit -/
def m__law_draw : Sm :=
  (mSeq (mIf (tmAnd (tmB (e2 fLt (eDIx 0 (eC (.int 2))) (eVar 1))) (tmB (e2 fLt (eDIx 0 (eC (.int 1))) (eN fLen (aCons (eDIx 0 (eC (.int 0))) aNil)))))
  (mSeq (mAsg (gmName 2) (e2 fIx (eDIx 0 (eC (.int 0))) (eDIx 0 (eC (.int 1)))))
  (mSeq (mSetD 0 (eC (.int 1)) (e2 fAdd (eDIx 0 (eC (.int 1))) (eC (.int 1))))
  (mSeq (mSetD 0 (eC (.int 3)) (e2 fMod (eN fInt (aCons (e2 fAdd (e2 fAdd (e2 fMul (eDIx 0 (eC (.int 3))) (eC (.int 48271))) (eVar 2)) (eC (.int 90173))) aNil)) (eC (.int 2147483629))))
  (mIf (tmB (e2 fGe (eN fAbs (aCons (eVar 2) aNil)) (e2 fPow (eC (.int 10)) (eC (.int 18)))))
  (mSetD 0 (eC (.int 2)) (eN fAbs (aCons (eVar 2) aNil)))
  mNext))))
  mNext)
  (mSeq (mIf (tmB (e2 fGe (eDIx 0 (eC (.int 2))) (eVar 1)))
  (mSeq (mAsg (gmName 3) (e2 fMod (eN fInt (aCons (eDIx 0 (eC (.int 2))) aNil)) (eVar 1)))
  (mSeq (mSetD 0 (eC (.int 2)) (e2 fDiv (eDIx 0 (eC (.int 2))) (eVar 1)))
  (mRet (eVar 3))))
  mNext)
  (mSeq (mSetD 0 (eC (.int 3)) (e2 fMod (eN fInt (aCons (e2 fAdd (e2 fMul (eDIx 0 (eC (.int 3))) (eC (.int 48271))) (eC (.int 90173))) aNil)) (eC (.int 2147483629))))
  (mSeq (mSetD 0 (eC (.int 4)) (e2 fMod (eN fInt (aCons (e2 fAdd (e2 fMul (eDIx 0 (eC (.int 4))) (eC (.int 69621))) (eDIx 0 (eC (.int 3)))) aNil)) (eC (.int 2147483587))))
  (mRet (e2 fMod (eN fInt (aCons (e2 fAdd (e2 fDiv (eDIx 0 (eC (.int 3))) (eC (.int 5))) (e2 fDiv (eDIx 0 (eC (.int 4))) (eC (.int 3)))) aNil)) (eVar 1)))))))
def M__law_draw : MO → List D → Rs (D × MO) := fnD 4 2 m__law_draw
/-- slots: 0 good, 1 word -/
def m_a_want : Sm :=
  (mIf (tmNot (tmTru (eVar 0)))
  (mRaise "NotUsable" "word" "at" (aCons (eVar 1) (aCons (e1 fNeg (eC (.int 1))) aNil)))
  mNext)
def M_a_want : List D → Rs D := fnM 2 2 m_a_want
/-- slots: 0 thing -/
def m_integer_fits : Sm :=
  (mRet (eAnd (eIsi .int (eVar 0)) (eNot (eIsi .bool (eVar 0)))))
def M_integer_fits : List D → Rs D := fnM 1 1 m_integer_fits
/-- slots: 0 thing -/
def m_number_fits : Sm :=
  (mRet (eAnd (eCall M_integer_fits (aCons (eVar 0) aNil)) (e2 fGe (eVar 0) (eC (.int 0)))))
def M_number_fits : List D → Rs D := fnM 1 1 m_number_fits
/-- slots: 0 many, 1 thing -/
def m_house_fits : Sm :=
  (mRet (eAnd (eCall M_number_fits (aCons (eVar 1) aNil)) (e2 fLt (eVar 1) (eVar 0))))
def M_house_fits : List D → Rs D := fnM 2 2 m_house_fits
/-- slots: 0 many, 1 thing -/
def m_wire_fits : Sm :=
  (mSeq (mIf (tmOr (tmNot (tmTru (eIsi .tup (eVar 1)))) (tmB (e2 fNe (eN fLen (aCons (eVar 1) aNil)) (eC (.int 2)))))
  (mRet (eC (.bool false)))
  mNext)
  (mRet (eAnd (eCall M_house_fits (aCons (eVar 0) (aCons (e2 fIx (eVar 1) (eC (.int 0))) aNil))) (eAnd (eCall M_house_fits (aCons (eVar 0) (aCons (e2 fIx (eVar 1) (eC (.int 1))) aNil))) (e2 fLt (e2 fIx (eVar 1) (eC (.int 0))) (e2 fIx (eVar 1) (eC (.int 1))))))))
def M_wire_fits : List D → Rs D := fnM 2 2 m_wire_fits
/-- slots: 0 many, 1 thing, 2 at, 3 wire -/
def m_net_fits : Sm :=
  (mSeq (mIf (tmOr (tmNot (tmTru (eIsi .tup (eVar 1)))) (tmNot (tmTru (eN fAll (aCons (eL (lLc (imSeq (eVar 1)) [3] (gmName 3) tmYes (eCall M_wire_fits (aCons (eVar 0) (aCons (eVar 3) aNil))))) aNil)))))
  (mRet (eC (.bool false)))
  mNext)
  (mSeq (mFor (imRng rng2 (aCons (eC (.int 1)) (aCons (eN fLen (aCons (eVar 1) aNil)) aNil))) (gmName 2)
  (mIf (tmB (e2 fLe (e2 fIx (eVar 1) (eVar 2)) (e2 fIx (eVar 1) (e2 fSub (eVar 2) (eC (.int 1))))))
  (mRet (eC (.bool false)))
  mNext))
  (mRet (eC (.bool true)))))
def M_net_fits : List D → Rs D := fnM 4 2 m_net_fits
/-- slots: 0 thing -/
def m_many_fits : Sm :=
  (mRet (eAnd (eCall M_integer_fits (aCons (eVar 0) aNil)) (e2 fGe (eVar 0) (eC (.int 1)))))
def M_many_fits : List D → Rs D := fnM 1 1 m_many_fits
/-- slots: 0 many, 1 thing -/
def m_is_net : Sm :=
  (mSeq (mDrop (eCall M_a_want (aCons (eCall M_many_fits (aCons (eVar 0) aNil)) (aCons (eC (.str "many")) aNil))))
  (mRet (eCall M_net_fits (aCons (eVar 0) (aCons (eVar 1) aNil)))))
def M_is_net : List D → Rs D := fnM 2 2 m_is_net
/-- slots: 0 thing, 1 size -/
def m_sizes_fit : Sm :=
  (mRet (eAnd (eIsi .tup (eVar 0)) (eAnd (e2 fGt (eN fLen (aCons (eVar 0) aNil)) (eC (.int 0))) (eN fAll (aCons (eL (lLc (imSeq (eVar 0)) [1] (gmName 1) tmYes (eCall M_many_fits (aCons (eVar 1) aNil)))) aNil)))))
def M_sizes_fit : List D → Rs D := fnM 2 1 m_sizes_fit
/-- slots: 0 thing -/
def m_is_sizes : Sm :=
  (mRet (eCall M_sizes_fit (aCons (eVar 0) aNil)))
def M_is_sizes : List D → Rs D := fnM 1 1 m_is_sizes
/-- slots: 0 sizes, 1 many, 2 size -/
def m_many_settings : Sm :=
  (mSeq (mAsg (gmName 1) (eC (.int 1)))
  (mSeq (mFor (imSeq (eVar 0)) (gmName 2)
  (mAsg (gmName 1) (e2 fMul (eVar 1) (eVar 2))))
  (mRet (eVar 1))))
def M_many_settings : List D → Rs D := fnM 3 1 m_many_settings
/-- slots: 0 thing -/
def m_is_bit : Sm :=
  (mRet (eAnd (eCall M_number_fits (aCons (eVar 0) aNil)) (e2 fLe (eVar 0) (eC (.int 1)))))
def M_is_bit : List D → Rs D := fnM 1 1 m_is_bit
/-- slots: 0 sizes, 1 thing, 2 bit -/
def m_is_table : Sm :=
  (mSeq (mDrop (eCall M_a_want (aCons (eCall M_is_sizes (aCons (eVar 0) aNil)) (aCons (eC (.str "sizes")) aNil))))
  (mSeq (mIf (tmOr (tmNot (tmTru (eIsi .tup (eVar 1)))) (tmB (e2 fNe (eN fLen (aCons (eVar 1) aNil)) (eCall M_many_settings (aCons (eVar 0) aNil)))))
  (mRet (eC (.bool false)))
  mNext)
  (mSeq (mFor (imSeq (eVar 1)) (gmName 2)
  (mIf (tmNot (tmTru (eCall M_is_bit (aCons (eVar 2) aNil))))
  (mRet (eC (.bool false)))
  mNext))
  (mRet (eC (.bool true))))))
def M_is_table : List D → Rs D := fnM 3 2 m_is_table
/-- slots: 0 many, 1 thing, 2 last, 3 house -/
def m_lot_fits : Sm :=
  (mSeq (mIf (tmNot (tmTru (eIsi .tup (eVar 1))))
  (mRet (eC (.bool false)))
  mNext)
  (mSeq (mAsg (gmName 2) (e1 fNeg (eC (.int 1))))
  (mSeq (mFor (imSeq (eVar 1)) (gmName 3)
  (mSeq (mIf (tmOr (tmNot (tmTru (eCall M_house_fits (aCons (eVar 0) (aCons (eVar 3) aNil))))) (tmB (e2 fLe (eVar 3) (eVar 2))))
  (mRet (eC (.bool false)))
  mNext)
  (mAsg (gmName 2) (eVar 3))))
  (mRet (eC (.bool true))))))
def M_lot_fits : List D → Rs D := fnM 4 2 m_lot_fits
/-- slots: 0 many, 1 thing, 2 lot -/
def m_is_lots : Sm :=
  (mRet (eAnd (eIsi .tup (eVar 1)) (eN fAll (aCons (eL (lLc (imSeq (eVar 1)) [2] (gmName 2) tmYes (eCall M_lot_fits (aCons (eVar 0) (aCons (eVar 2) aNil))))) aNil))))
def M_is_lots : List D → Rs D := fnM 3 2 m_is_lots
/-- slots: 0 one, 1 other, 2 house -/
def m_lot_within : Sm :=
  (mRet (eN fAll (aCons (eL (lLc (imSeq (eVar 0)) [2] (gmName 2) tmYes (e2 fIn (eVar 2) (eVar 1)))) aNil)))
def M_lot_within : List D → Rs D := fnM 3 2 m_lot_within
/-- slots: 0 many, 1 thing, 2 at, 3 one, 4 other -/
def m_fears_fit : Sm :=
  (mSeq (mIf (tmOr (tmNot (tmTru (eCall M_is_lots (aCons (eVar 0) (aCons (eVar 1) aNil))))) (tmB (e2 fEq (eN fLen (aCons (eVar 1) aNil)) (eC (.int 0)))))
  (mRet (eC (.bool false)))
  mNext)
  (mSeq (mFor (imRng rng2 (aCons (eC (.int 1)) (aCons (eN fLen (aCons (eVar 1) aNil)) aNil))) (gmName 2)
  (mIf (tmB (e2 fLe (e2 fIx (eVar 1) (eVar 2)) (e2 fIx (eVar 1) (e2 fSub (eVar 2) (eC (.int 1))))))
  (mRet (eC (.bool false)))
  mNext))
  (mRet (eNot (eN fAny (aCons (eL (lLc2 (imSeq (eVar 1)) [3, 4] [4] (gmName 3) tmYes (imSeq (eVar 1)) (gmName 4) tmYes (eAnd (e2 fNe (eVar 3) (eVar 4)) (eCall M_lot_within (aCons (eVar 3) (aCons (eVar 4) aNil)))))) aNil))))))
def M_fears_fit : List D → Rs D := fnM 5 2 m_fears_fit
/-- slots: 0 thing -/
def m_ground_fits : Sm :=
  (mSeq (mIf (tmOr (tmNot (tmTru (eIsi .tup (eVar 0)))) (tmB (e2 fNe (eN fLen (aCons (eVar 0) aNil)) (eC (.int 2)))))
  (mRet (eC (.bool false)))
  mNext)
  (mRet (eAnd (eCall M_sizes_fit (aCons (e2 fIx (eVar 0) (eC (.int 0))) aNil)) (eCall M_fears_fit (aCons (eN fLen (aCons (e2 fIx (eVar 0) (eC (.int 0))) aNil)) (aCons (e2 fIx (eVar 0) (eC (.int 1))) aNil))))))
def M_ground_fits : List D → Rs D := fnM 1 1 m_ground_fits
/-- slots: 0 thing -/
def m_is_ground : Sm :=
  (mRet (eCall M_ground_fits (aCons (eVar 0) aNil)))
def M_is_ground : List D → Rs D := fnM 1 1 m_is_ground
/-- slots: 0 thing, 1 sizes, 2 word, 3 ground, 4 net, 5 table -/
def m__is_beginning : Sm :=
  (mSeq (mIf (tmOr (tmNot (tmTru (eIsi .tup (eVar 0)))) (tmB (e2 fNe (eN fLen (aCons (eVar 0) aNil)) (eC (.int 4)))))
  (mRet (eC (.bool false)))
  mNext)
  (mSeq (mAsg (gmTup [2, 3, 4, 5]) (eVar 0))
  (mSeq (mIf (tmOr (tmNot (tmTru (eIsi .str (eVar 2)))) (tmOr (tmB (e2 fNe (eVar 2) (eC (.str "begin")))) (tmNot (tmTru (eCall M_is_ground (aCons (eVar 3) aNil))))))
  (mRet (eC (.bool false)))
  mNext)
  (mSeq (mAsg (gmName 1) (e2 fIx (eVar 3) (eC (.int 0))))
  (mRet (eAnd (eCall M_is_net (aCons (eN fLen (aCons (eVar 1) aNil)) (aCons (eVar 4) aNil))) (eCall M_is_table (aCons (eVar 1) (aCons (eVar 5) aNil)))))))))
def M__is_beginning : List D → Rs D := fnM 6 1 m__is_beginning
/-- slots: 0 thing -/
def m_is_number : Sm :=
  (mRet (eCall M_number_fits (aCons (eVar 0) aNil)))
def M_is_number : List D → Rs D := fnM 1 1 m_is_number
/-- slots: 0 thing, 1 one -/
def m__are_numbers : Sm :=
  (mRet (eAnd (eIsi .tup (eVar 0)) (eN fAll (aCons (eL (lLc (imSeq (eVar 0)) [1] (gmName 1) tmYes (eCall M_is_number (aCons (eVar 1) aNil)))) aNil))))
def M__are_numbers : List D → Rs D := fnM 2 1 m__are_numbers
/-- slots: 0 thing, 1 k -/
def m__is_lot_form : Sm :=
  (mRet (eAnd (eCall M__are_numbers (aCons (eVar 0) aNil)) (eN fAll (aCons (eL (lLc (imRng rng1 (aCons (e2 fSub (eN fLen (aCons (eVar 0) aNil)) (eC (.int 1))) aNil)) [1] (gmName 1) tmYes (e2 fLt (e2 fIx (eVar 0) (eVar 1)) (e2 fIx (eVar 0) (e2 fAdd (eVar 1) (eC (.int 1))))))) aNil))))
def M__is_lot_form : List D → Rs D := fnM 2 1 m__is_lot_form
/-- slots: 0 thing, 1 name -/
def m_is_event : Sm :=
  (mSeq (mIf (tmOr (tmNot (tmTru (eIsi .tup (eVar 0)))) (tmOr (tmB (e2 fEq (eN fLen (aCons (eVar 0) aNil)) (eC (.int 0)))) (tmNot (tmTru (eIsi .str (e2 fIx (eVar 0) (eC (.int 0))))))))
  (mRet (eC (.bool false)))
  mNext)
  (mSeq (mAsg (gmName 1) (e2 fIx (eVar 0) (eC (.int 0))))
  (mSeq (mIf (tmOr (tmB (eInTb false tbL_COUNTS (eVar 1))) (tmB (e2 fNe (eN fLen (aCons (eVar 0) aNil)) (eIxTb tbL_COUNTS (eVar 1)))))
  (mRet (eC (.bool false)))
  mNext)
  (mSeq (mIf (tmOr (tmB (e2 fEq (eVar 1) (eC (.str "fear")))) (tmB (e2 fEq (eVar 1) (eC (.str "calm")))))
  (mRet (eCall M__is_lot_form (aCons (e2 fIx (eVar 0) (eC (.int 1))) aNil)))
  mNext)
  (mSeq (mIf (tmB (e2 fEq (eVar 1) (eC (.str "answer"))))
  (mRet (eAnd (eCall M__are_numbers (aCons (e2 fIx (eVar 0) (eC (.int 1))) aNil)) (eAnd (e2 fGt (eN fLen (aCons (e2 fIx (eVar 0) (eC (.int 1))) aNil)) (eC (.int 0))) (eCall M_is_bit (aCons (e2 fIx (eVar 0) (eC (.int 2))) aNil)))))
  mNext)
  (mRet (eCall M__are_numbers (aCons (eSl (eVar 0) (oSome (eC (.int 1))) oNone) aNil))))))))
def M_is_event : List D → Rs D := fnM 2 1 m_is_event
/-- slots: 0 thing, 1 event -/
def m_is_log : Sm :=
  (mSeq (mIf (tmOr (tmNot (tmTru (eIsi .tup (eVar 0)))) (tmOr (tmB (e2 fEq (eN fLen (aCons (eVar 0) aNil)) (eC (.int 0)))) (tmNot (tmTru (eCall M__is_beginning (aCons (e2 fIx (eVar 0) (eC (.int 0))) aNil))))))
  (mRet (eC (.bool false)))
  mNext)
  (mRet (eN fAll (aCons (eL (lLc (imSeq (eSl (eVar 0) (oSome (eC (.int 1))) oNone)) [1] (gmName 1) tmYes (eCall M_is_event (aCons (eVar 1) aNil)))) aNil))))
def M_is_log : List D → Rs D := fnM 2 1 m_is_log
/-- slots: 0 _law_thing, 1 _law_due, 2 _law_one, 3 _law_two -/
def m__law_is_log : Sm :=
  (mSeq (mAsg (gmName 2) (eCall M_is_log (aCons (eVar 0) aNil)))
  (mSeq (mIf (tmOr (tmNot (tmTru (eIsi .bool (eVar 2)))) (tmB (e2 fNe (eVar 2) (eVar 1))))
  (mRet (eC (.bool false)))
  mNext)
  (mSeq (mIf (tmNot (tmTru (eVar 1)))
  (mRet (eC (.bool true)))
  mNext)
  (mSeq (mAsg (gmName 3) (eCallK M_is_log 0 1 [0] aNil (aCons (eVar 0) aNil)))
  (mRet (eAnd (eIsi .bool (eVar 3)) (eVar 3)))))))
def M__law_is_log : List D → Rs D := fnM 4 2 m__law_is_log
/-- slots: 0 _law_thing, 1 _law_due, 2 _law_one, 3 _law_two -/
def m__law_told : Sm :=
  (mSeq (mAsg (gmName 2) (eCall M_is_event (aCons (eVar 0) aNil)))
  (mSeq (mIf (tmOr (tmNot (tmTru (eIsi .bool (eVar 2)))) (tmB (e2 fNe (eVar 2) (eVar 1))))
  (mRet (eC (.bool false)))
  mNext)
  (mSeq (mIf (tmNot (tmTru (eVar 1)))
  (mRet (eC (.bool true)))
  mNext)
  (mSeq (mAsg (gmName 3) (eCallK M_is_event 0 1 [0] aNil (aCons (eVar 0) aNil)))
  (mRet (eAnd (eIsi .bool (eVar 3)) (eVar 3)))))))
def M__law_told : List D → Rs D := fnM 4 2 m__law_told
/-- slots: 0 _law_goods, 1 _law_good_here, 2 _law_bads, 3 _law_bad -/
def m__law_by_hand : Sm :=
  (mSeq (mAsg (gmName 0) (eL (lLst (aCons (eTup (aCons (eC (.str "fear")) (aCons (eTup aNil) aNil))) (aCons (eTup (aCons (eC (.str "fear")) (aCons (eTup (aCons (eC (.int 0)) aNil)) aNil))) (aCons (eTup (aCons (eC (.str "calm")) (aCons (eTup aNil) aNil))) (aCons (eTup (aCons (eC (.str "calm")) (aCons (eTup (aCons (eC (.int 0)) (aCons (eC (.int 2)) (aCons (eC (.int 5)) aNil)))) aNil))) (aCons (eTup (aCons (eC (.str "answer")) (aCons (eTup (aCons (eC (.int 0)) aNil)) (aCons (eC (.int 0)) aNil)))) (aCons (eTup (aCons (eC (.str "answer")) (aCons (eTup (aCons (eC (.int 3)) (aCons (eC (.int 0)) (aCons (eC (.int 3)) aNil)))) (aCons (eC (.int 1)) aNil)))) aNil)))))))))
  (mSeq (mAsg (gmName 0) (e2 fAdd (eVar 0) (eL (lLst (aCons (eTup (aCons (eC (.str "wire")) (aCons (eC (.int 0)) (aCons (eC (.int 0)) aNil)))) (aCons (eTup (aCons (eC (.str "wire")) (aCons (eC (.int 1)) (aCons (eC (.int 0)) aNil)))) (aCons (eTup (aCons (eC (.str "unwire")) (aCons (eC (.int 7)) (aCons (eC (.int 7)) aNil)))) (aCons (eTup (aCons (eC (.str "leave")) (aCons (eC (.int 0)) (aCons (eC (.int 9)) aNil)))) (aCons (eTup (aCons (eC (.str "enter")) aNil)) (aCons (eTup (aCons (eC (.str "fear")) (aCons (eTup (aCons (eC (.int 99)) (aCons (eC (.int 100)) aNil))) aNil))) aNil))))))))))
  (mSeq (mFor (imSeq (eVar 0)) (gmName 1)
  (mIf (tmNot (tmTru (eCall M__law_told (aCons (eVar 1) (aCons (eC (.bool true)) aNil)))))
  (mRet (eC (.bool false)))
  mNext))
  (mSeq (mAsg (gmName 2) (eL (lLst (aCons (eTup aNil) (aCons (eL (lLst aNil)) (aCons (eC .none) (aCons (eC (.bool true)) (aCons (eC (.int 0)) (aCons (eC (.str "enter")) (aCons (eC (.str "fear")) (aCons (eTup (aCons (eC (.str "enter")) (aCons (eTup aNil) aNil))) (aCons (eTup (aCons (eC (.str "enter")) (aCons (eC .none) aNil))) (aCons (eL (lLst (aCons (eC (.str "enter")) aNil))) (aCons (eTup (aCons (eC (.str "fear")) aNil)) (aCons (eTup (aCons (eC (.str "fear")) (aCons (eTup (aCons (eC (.int 0)) (aCons (eC (.int 0)) aNil))) aNil))) aNil)))))))))))))))
  (mSeq (mAsg (gmName 2) (e2 fAdd (eVar 2) (eL (lLst (aCons (eTup (aCons (eC (.str "fear")) (aCons (eTup (aCons (eC (.int 1)) (aCons (eC (.int 0)) aNil))) aNil))) (aCons (eTup (aCons (eC (.str "fear")) (aCons (eTup (aCons (eC (.bool true)) aNil)) aNil))) (aCons (eTup (aCons (eC (.str "calm")) (aCons (eTup (aCons (eC (.int 0)) (aCons (eC (.bool true)) aNil))) aNil))) (aCons (eTup (aCons (eC (.str "calm")) (aCons (eC (.int 0)) aNil))) (aCons (eTup (aCons (eC (.str "fear")) (aCons (eC (.int 0)) (aCons (eC (.int 1)) aNil)))) (aCons (eTup (aCons (eC (.str "calm")) (aCons (eL (lLst (aCons (eC (.int 0)) aNil))) aNil))) aNil))))))))))
  (mSeq (mAsg (gmName 2) (e2 fAdd (eVar 2) (eL (lLst (aCons (eTup (aCons (eC (.str "answer")) (aCons (eTup (aCons (eC (.int 0)) aNil)) (aCons (eC (.bool true)) aNil)))) (aCons (eTup (aCons (eC (.str "answer")) (aCons (eTup aNil) (aCons (eC (.int 0)) aNil)))) (aCons (eTup (aCons (eC (.str "answer")) (aCons (eTup (aCons (eC (.int 0)) aNil)) (aCons (eC (.int 2)) aNil)))) (aCons (eTup (aCons (eC (.str "answer")) (aCons (eTup (aCons (eC (.bool false)) aNil)) (aCons (eC (.int 0)) aNil)))) aNil))))))))
  (mSeq (mAsg (gmName 2) (e2 fAdd (eVar 2) (eL (lLst (aCons (eTup (aCons (eC (.str "answer")) (aCons (eC (.int 0)) (aCons (eTup (aCons (eC (.int 0)) aNil)) aNil)))) (aCons (eTup (aCons (eC (.str "answer")) (aCons (eL (lLst (aCons (eC (.int 0)) aNil))) (aCons (eC (.int 0)) aNil)))) (aCons (eTup (aCons (eC (.str "answer")) (aCons (eTup (aCons (eC (.int 0)) aNil)) aNil))) (aCons (eTup (aCons (eC (.str "wire")) (aCons (eC (.int 0)) aNil))) (aCons (eTup (aCons (eC (.str "wire")) (aCons (eTup (aCons (eC (.int 0)) (aCons (eC (.int 1)) aNil))) aNil))) (aCons (eTup (aCons (eC (.str "wire")) (aCons (eC (.int 0)) (aCons (eC (.int 1)) (aCons (eC (.int 2)) aNil))))) aNil))))))))))
  (mSeq (mAsg (gmName 2) (e2 fAdd (eVar 2) (eL (lLst (aCons (eTup (aCons (eC (.str "wire")) (aCons (eC (.bool true)) (aCons (eC (.int 0)) aNil)))) (aCons (eTup (aCons (eC (.str "unwire")) (aCons (eC (.int 0)) (aCons (eC (.bool false)) aNil)))) (aCons (eTup (aCons (eC (.str "leave")) (aCons (eC (.int 0)) aNil))) (aCons (eTup (aCons (eC (.str "leave")) (aCons (e1 fNeg (eC (.int 1))) (aCons (eC (.int 0)) aNil)))) (aCons (eTup (aCons (eC (.str "leave")) (aCons (eC (.int 0)) (aCons (e1 fNeg (eC (.int 1))) aNil)))) (aCons (eTup (aCons (eC (.str "leave")) (aCons (eC (.int 0)) (aCons (eC .none) aNil)))) aNil))))))))))
  (mSeq (mAsg (gmName 2) (e2 fAdd (eVar 2) (eL (lLst (aCons (eTup (aCons (eC (.str "undo")) aNil)) (aCons (eTup (aCons (eC (.str "begin")) (aCons (eC (.int 0)) (aCons (eC (.int 1)) aNil)))) (aCons (eTup (aCons (eC (.str "stay")) (aCons (eC (.int 0)) (aCons (eC (.int 0)) aNil)))) (aCons (eTup (aCons (eTup (aCons (eC (.str "enter")) aNil)) aNil)) (aCons (eTup (aCons (eC (.str "Enter")) aNil)) (aCons (eTup (aCons (eC (.str "wires")) (aCons (eC (.int 0)) (aCons (eC (.int 1)) aNil)))) (aCons (eTup (aCons (eC (.int 1)) (aCons (eC (.int 0)) (aCons (eC (.int 1)) aNil)))) aNil)))))))))))
  (mSeq (mFor (imSeq (eVar 2)) (gmName 3)
  (mIf (tmNot (tmTru (eCall M__law_told (aCons (eVar 3) (aCons (eC (.bool false)) aNil)))))
  (mRet (eC (.bool false)))
  mNext))
  (mRet (eC (.bool true)))))))))))))
def M__law_by_hand : List D → Rs D := fnM 4 0 m__law_by_hand
/-- slots: 0 _law_feed_here, 1 _law_lot_here, 2 _law_house, 3 _law_k -/
def m__law_lot : Sm :=
  (mSeq (mAsgO 1 (lLst aNil))
  (mSeq (mAsg (gmName 2) (eCallD M__law_draw 0 (aCons (eC (.int 3)) aNil)))
  (mSeq (mIf (tmB (e2 fEq (eCallD M__law_draw 0 (aCons (eC (.int 9)) aNil)) (eC (.int 4))))
  (mAsg (gmName 2) (e2 fAdd (eVar 2) (e2 fPow (eC (.int 10)) (eC (.int 50)))))
  mNext)
  (mSeq (mFor (imRng rng1 (aCons (eCallD M__law_draw 0 (aCons (eC (.int 7)) aNil)) aNil)) (gmName 3)
  (mSeq (mApp 1 (eVar 2))
  (mAsg (gmName 2) (e2 fAdd (e2 fAdd (eVar 2) (eC (.int 1))) (e2 fMul (eCallD M__law_draw 0 (aCons (eC (.int 4)) aNil)) (eCallD M__law_draw 0 (aCons (eC (.int 30)) aNil)))))))
  (mRet (eN fTuple (aCons (eVar 1) aNil)))))))
def M__law_lot : MO → List D → Rs (D × MO) := fnD 4 1 m__law_lot
/-- slots: 0 _law_feed_here, 1 _law_kind, 2 _law_one, 3 _law_other, 4 _law_size, 5 _law_k -/
def m__law_good : Sm :=
  (mSeq (mAsg (gmName 1) (eCallD M__law_draw 0 (aCons (eC (.int 7)) aNil)))
  (mSeq (mIf (tmB (e2 fLt (eVar 1) (eC (.int 2))))
  (mRet (eTup (aCons (e2 fIx (eL (lLst (aCons (eC (.str "fear")) (aCons (eC (.str "calm")) aNil)))) (eVar 1)) (aCons (eCallD M__law_lot 0 aNil) aNil))))
  mNext)
  (mSeq (mIf (tmB (e2 fEq (eVar 1) (eC (.int 2))))
  (mSeq (mAsg (gmName 4) (e2 fAdd (eC (.int 1)) (eCallD M__law_draw 0 (aCons (eC (.int 7)) aNil))))
  (mRet (eTup (aCons (eC (.str "answer")) (aCons (eN fTuple (aCons (eL (lLc (imRng rng1 (aCons (eVar 4) aNil)) [5] (gmName 5) tmYes (eCallD M__law_draw 0 (aCons (eC (.int 12)) aNil)))) aNil)) (aCons (eCallD M__law_draw 0 (aCons (eC (.int 2)) aNil)) aNil))))))
  mNext)
  (mSeq (mIf (tmB (e2 fEq (eVar 1) (eC (.int 6))))
  (mRet (eTup (aCons (eC (.str "enter")) aNil)))
  mNext)
  (mSeq (mAsg (gmName 2) (eCallD M__law_draw 0 (aCons (eC (.int 7)) aNil)))
  (mSeq (mAsg (gmName 3) (eCallD M__law_draw 0 (aCons (eC (.int 7)) aNil)))
  (mSeq (mIf (tmB (e2 fEq (eCallD M__law_draw 0 (aCons (eC (.int 9)) aNil)) (eC (.int 2))))
  (mAsg (gmName 3) (e2 fAdd (eVar 3) (e2 fPow (eC (.int 10)) (eC (.int 40)))))
  mNext)
  (mRet (eTup (aCons (e2 fIx (eL (lLst (aCons (eC (.str "wire")) (aCons (eC (.str "unwire")) (aCons (eC (.str "leave")) aNil))))) (e2 fSub (eVar 1) (eC (.int 3)))) (aCons (eVar 2) (aCons (eVar 3) aNil))))))))))))
def M__law_good : MO → List D → Rs (D × MO) := fnD 6 1 m__law_good
/-- slots:  -/
def m__law_strange : Sm :=
  (mRet (eL (lLst (aCons (eC (.bool true)) (aCons (eC (.bool false)) (aCons (e1 fNeg (eC (.int 1))) (aCons (eC (.str "1")) (aCons (eC .none) (aCons (eTup (aCons (eC (.int 1)) aNil)) (aCons (eL (lLst (aCons (eC (.int 1)) aNil))) (aCons (eTup aNil) (aCons (eC (.str "")) (aCons (e1 fNeg (e2 fPow (eC (.int 10)) (eC (.int 30)))) aNil)))))))))))))
def M__law_strange : List D → Rs D := fnM 0 0 m__law_strange
/-- slots: 0 _law_feed_here, 1 _law_depth, 2 _law_kind, 3 _law_size, 4 _law_row, 5 _law_k -/
def m__law_any (R : MO → List D → Rs (D × MO)) : Sm :=
  (mSeq (mAsg (gmName 2) (eCallD M__law_draw 0 (aCons (eC (.int 11)) aNil)))
  (mSeq (mIf (tmAnd (tmB (e2 fLt (eVar 2) (eC (.int 3)))) (tmB (e2 fGt (eVar 1) (eC (.int 0)))))
  (mSeq (mAsg (gmName 3) (eCallD M__law_draw 0 (aCons (eC (.int 4)) aNil)))
  (mSeq (mAsg (gmName 4) (eL (lLc (imRng rng1 (aCons (eVar 3) aNil)) [5] (gmName 5) tmYes (eCallD R 0 (aCons (e2 fSub (eVar 1) (eC (.int 1))) aNil)))))
  (mSeq (mIf (tmB (e2 fEq (eVar 2) (eC (.int 0))))
  (mRet (eVar 4))
  mNext)
  (mRet (eN fTuple (aCons (eVar 4) aNil))))))
  mNext)
  (mSeq (mIf (tmB (e2 fEq (eVar 2) (eC (.int 3))))
  (mRet (e2 fIx (eL (lLst (aCons (eC (.str "fear")) (aCons (eC (.str "calm")) (aCons (eC (.str "answer")) (aCons (eC (.str "wire")) (aCons (eC (.str "unwire")) (aCons (eC (.str "leave")) (aCons (eC (.str "enter")) (aCons (eC (.str "begin")) aNil)))))))))) (eCallD M__law_draw 0 (aCons (eC (.int 8)) aNil))))
  mNext)
  (mSeq (mIf (tmB (e2 fEq (eVar 2) (eC (.int 4))))
  (mRet (e2 fIx (eCall M__law_strange aNil) (eCallD M__law_draw 0 (aCons (eC (.int 10)) aNil))))
  mNext)
  (mSeq (mIf (tmB (e2 fEq (eVar 2) (eC (.int 5))))
  (mRet (eCallD M__law_lot 0 aNil))
  mNext)
  (mRet (eCallD M__law_draw 0 (aCons (eC (.int 4)) aNil))))))))
def MR__law_any : Nat → MO → List D → Rs (D × MO)
  | 0 => fun _ _ => .stk
  | j + 1 => fnD 6 2 (m__law_any (MR__law_any j))
def M__law_any : MO → List D → Rs (D × MO) := MR__law_any 6
/-- slots: 0 _law_head, 1 _law_goods, 2 _law_others, 3 _law_one -/
def m__law_others_by_hand : Sm :=
  (mSeq (mAsg (gmName 2) (eL (lLst (aCons (eTup aNil) (aCons (eL (lLst (aCons (eVar 0) aNil))) (aCons (eL (lLst (aCons (eVar 0) (aCons (eTup (aCons (eC (.str "enter")) aNil)) aNil)))) (aCons (eVar 0) (aCons (eC .none) (aCons (eC (.bool true)) (aCons (eC (.str "log")) (aCons (eTup (aCons (eVar 0) (aCons (eVar 0) aNil))) (aCons (eTup (aCons (eVar 0) (aCons (eTup aNil) aNil))) (aCons (eTup (aCons (eVar 0) (aCons (eVar 1) aNil))) (aCons (eTup (aCons (eVar 0) (aCons (eC .none) aNil))) aNil))))))))))))))
  (mSeq (mAsg (gmName 2) (e2 fAdd (eVar 2) (eL (lLst (aCons (eTup (aCons (eTup (aCons (eC (.str "enter")) aNil)) (aCons (eVar 0) aNil))) (aCons (eVar 1) (aCons (eTup (aCons (eL (lN fList (aCons (eVar 0) aNil))) aNil)) (aCons (eTup (aCons (eVar 0) (aCons (eL (lLst (aCons (eC (.str "enter")) aNil))) aNil))) (aCons (eTup (aCons (eVar 0) (aCons (eC (.str "enter")) aNil))) (aCons (eTup (aCons (eVar 0) (aCons (eC (.int 0)) aNil))) (aCons (eTup (aCons (eTup (aCons (eVar 0) aNil)) aNil)) aNil)))))))))))
  (mSeq (mFor (imSeq (eVar 2)) (gmName 3)
  (mIf (tmNot (tmTru (eCall M__law_is_log (aCons (eVar 3) (aCons (eC (.bool false)) aNil)))))
  (mRet (eC (.bool false)))
  mNext))
  (mRet (eC (.bool true))))))
def M__law_others_by_hand : List D → Rs D := fnM 4 2 m__law_others_by_hand
/-- slots: 0 _law_goods, 1 _law_head, 2 _law_logs, 3 _law_log, 4 _law_ground, 5 _law_net, 6 _law_table, 7 _law_grounds, 8 _law_nets, 9 _law_tables, 10 _law_heads, 11 _law_one -/
def m__law_log_by_hand : Sm :=
  (mSeq (mAsg (gmName 1) (eTup (aCons (eC (.str "begin")) (aCons (eTup (aCons (eTup (aCons (eC (.int 2)) (aCons (eC (.int 1)) (aCons (eC (.int 3)) aNil)))) (aCons (eTup (aCons (eTup (aCons (eC (.int 0)) (aCons (eC (.int 1)) aNil))) (aCons (eTup (aCons (eC (.int 2)) aNil)) aNil))) aNil))) (aCons (eTup (aCons (eTup (aCons (eC (.int 0)) (aCons (eC (.int 1)) aNil))) (aCons (eTup (aCons (eC (.int 1)) (aCons (eC (.int 2)) aNil))) aNil))) (aCons (eTup (aCons (eC (.int 0)) (aCons (eC (.int 1)) (aCons (eC (.int 0)) (aCons (eC (.int 1)) (aCons (eC (.int 1)) (aCons (eC (.int 0)) aNil))))))) aNil))))))
  (mSeq (mAsg (gmName 2) (eL (lLst (aCons (eTup (aCons (eVar 1) aNil)) (aCons (e2 fAdd (eTup (aCons (eVar 1) aNil)) (eVar 0)) (aCons (eTup (aCons (eVar 1) (aCons (eTup (aCons (eC (.str "leave")) (aCons (eC (.int 40)) (aCons (eC (.int 9)) aNil)))) aNil))) (aCons (eTup (aCons (eVar 1) (aCons (eTup (aCons (eC (.str "fear")) (aCons (eTup (aCons (eC (.int 0)) aNil)) aNil))) (aCons (eTup (aCons (eC (.str "fear")) (aCons (eTup (aCons (eC (.int 0)) aNil)) aNil))) aNil)))) aNil)))))))
  (mSeq (mAsg (gmName 2) (e2 fAdd (eVar 2) (eL (lLst (aCons (eTup (aCons (eTup (aCons (eC (.str "begin")) (aCons (eTup (aCons (eTup (aCons (eC (.int 1)) aNil)) (aCons (eTup (aCons (eTup aNil) aNil)) aNil))) (aCons (eTup aNil) (aCons (eTup (aCons (eC (.int 0)) aNil)) aNil))))) aNil)) (aCons (eTup (aCons (eTup (aCons (eC (.str "begin")) (aCons (eTup (aCons (eTup (aCons (eC (.int 1)) aNil)) (aCons (eTup (aCons (eTup (aCons (eC (.int 0)) aNil)) aNil)) aNil))) (aCons (eTup aNil) (aCons (eTup (aCons (eC (.int 1)) aNil)) aNil))))) (aCons (eTup (aCons (eC (.str "enter")) aNil)) aNil))) aNil))))))
  (mSeq (mFor (imSeq (eVar 2)) (gmName 3)
  (mIf (tmNot (tmTru (eCall M__law_is_log (aCons (eVar 3) (aCons (eC (.bool true)) aNil)))))
  (mRet (eC (.bool false)))
  mNext))
  (mSeq (mAsg (gmName 4) (e2 fIx (eVar 1) (eC (.int 1))))
  (mSeq (mAsg (gmName 5) (e2 fIx (eVar 1) (eC (.int 2))))
  (mSeq (mAsg (gmName 6) (e2 fIx (eVar 1) (eC (.int 3))))
  (mSeq (mAsg (gmName 7) (eL (lLst (aCons (eL (lN fList (aCons (eVar 4) aNil))) (aCons (eSl (eVar 4) oNone (oSome (eC (.int 1)))) (aCons (e2 fAdd (eVar 4) (eTup (aCons (eTup aNil) aNil))) (aCons (eTup (aCons (eTup aNil) (aCons (eTup (aCons (eTup aNil) aNil)) aNil))) (aCons (eTup (aCons (eTup (aCons (eC (.int 2)) (aCons (eC (.int 1)) (aCons (eC (.bool true)) aNil)))) (aCons (e2 fIx (eVar 4) (eC (.int 1))) aNil))) (aCons (eTup (aCons (eTup (aCons (eC (.int 2)) (aCons (eC (.int 1)) (aCons (eC (.int 0)) aNil)))) (aCons (e2 fIx (eVar 4) (eC (.int 1))) aNil))) aNil)))))))))
  (mSeq (mAsg (gmName 7) (e2 fAdd (eVar 7) (eL (lLst (aCons (eTup (aCons (eL (lLst (aCons (eC (.int 2)) (aCons (eC (.int 1)) (aCons (eC (.int 3)) aNil))))) (aCons (e2 fIx (eVar 4) (eC (.int 1))) aNil))) (aCons (eTup (aCons (e2 fIx (eVar 4) (eC (.int 0))) (aCons (eTup aNil) aNil))) (aCons (eTup (aCons (e2 fIx (eVar 4) (eC (.int 0))) (aCons (eTup (aCons (eTup (aCons (eC (.int 2)) aNil)) (aCons (eTup (aCons (eC (.int 0)) (aCons (eC (.int 1)) aNil))) aNil))) aNil))) (aCons (eTup (aCons (e2 fIx (eVar 4) (eC (.int 0))) (aCons (eTup (aCons (eTup (aCons (eC (.int 0)) (aCons (eC (.int 1)) aNil))) (aCons (eTup (aCons (eC (.int 1)) aNil)) aNil))) aNil))) aNil))))))))
  (mSeq (mAsg (gmName 7) (e2 fAdd (eVar 7) (eL (lLst (aCons (eTup (aCons (e2 fIx (eVar 4) (eC (.int 0))) (aCons (eTup (aCons (eTup (aCons (eC (.int 0)) (aCons (eC (.int 1)) aNil))) (aCons (eTup (aCons (eC (.int 3)) aNil)) aNil))) aNil))) (aCons (eTup (aCons (e2 fIx (eVar 4) (eC (.int 0))) (aCons (eTup (aCons (eTup (aCons (eC (.int 0)) (aCons (eC (.int 1)) aNil))) (aCons (eTup (aCons (eC (.int 0)) (aCons (eC (.int 1)) aNil))) aNil))) aNil))) (aCons (eTup (aCons (e2 fIx (eVar 4) (eC (.int 0))) (aCons (eTup (aCons (eTup aNil) (aCons (eTup (aCons (eC (.int 2)) aNil)) aNil))) aNil))) (aCons (eC .none) aNil))))))))
  (mSeq (mAsg (gmName 7) (e2 fAdd (eVar 7) (eL (lLst (aCons (eTup (aCons (e2 fIx (eVar 4) (eC (.int 0))) (aCons (eTup (aCons (eTup (aCons (eC (.int 1)) (aCons (eC (.int 0)) aNil))) (aCons (eTup (aCons (eC (.int 2)) aNil)) aNil))) aNil))) (aCons (eTup (aCons (e2 fIx (eVar 4) (eC (.int 0))) (aCons (eL (lLst (aCons (eTup (aCons (eC (.int 0)) (aCons (eC (.int 1)) aNil))) (aCons (eTup (aCons (eC (.int 2)) aNil)) aNil)))) aNil))) (aCons (eTup (aCons (e2 fIx (eVar 4) (eC (.int 0))) (aCons (eTup (aCons (eTup (aCons (eC (.int 0)) (aCons (eC (.bool true)) aNil))) (aCons (eTup (aCons (eC (.int 2)) aNil)) aNil))) aNil))) (aCons (eC (.str "ground")) aNil))))))))
  (mSeq (mAsg (gmName 8) (eL (lLst (aCons (eL (lN fList (aCons (eVar 5) aNil))) (aCons (eTup (aCons (eTup (aCons (eC (.int 1)) (aCons (eC (.int 2)) aNil))) (aCons (eTup (aCons (eC (.int 0)) (aCons (eC (.int 1)) aNil))) aNil))) (aCons (eTup (aCons (eTup (aCons (eC (.int 0)) (aCons (eC (.int 1)) aNil))) (aCons (eTup (aCons (eC (.int 0)) (aCons (eC (.int 1)) aNil))) aNil))) (aCons (eTup (aCons (eTup (aCons (eC (.int 1)) (aCons (eC (.int 0)) aNil))) (aCons (eTup (aCons (eC (.int 1)) (aCons (eC (.int 2)) aNil))) aNil))) (aCons (eTup (aCons (eTup (aCons (eC (.int 0)) (aCons (eC (.int 0)) aNil))) aNil)) (aCons (eTup (aCons (eTup (aCons (eC (.int 0)) (aCons (eC (.int 3)) aNil))) aNil)) (aCons (eTup (aCons (eTup (aCons (eC (.int 0)) (aCons (eC (.int 1)) (aCons (eC (.int 2)) aNil)))) aNil)) (aCons (eTup (aCons (eC (.int 0)) (aCons (eC (.int 1)) aNil))) aNil)))))))))))
  (mSeq (mAsg (gmName 8) (e2 fAdd (eVar 8) (eL (lLst (aCons (eTup (aCons (eTup (aCons (eC (.int 0)) (aCons (eC (.bool true)) aNil))) (aCons (eTup (aCons (eC (.int 1)) (aCons (eC (.int 2)) aNil))) aNil))) (aCons (eTup (aCons (eL (lLst (aCons (eC (.int 0)) (aCons (eC (.int 1)) aNil)))) (aCons (eTup (aCons (eC (.int 1)) (aCons (eC (.int 2)) aNil))) aNil))) (aCons (eTup (aCons (eTup (aCons (e1 fNeg (eC (.int 1))) (aCons (eC (.int 1)) aNil))) aNil)) (aCons (eC .none) (aCons (eTup (aCons (eTup (aCons (eC (.int 0)) aNil)) aNil)) (aCons (eTup (aCons (eTup (aCons (eC (.bool false)) (aCons (eC (.int 1)) aNil))) aNil)) aNil))))))))))
  (mSeq (mAsg (gmName 9) (eL (lLst (aCons (eL (lN fList (aCons (eVar 6) aNil))) (aCons (eSl (eVar 6) oNone (oSome (e1 fNeg (eC (.int 1))))) (aCons (e2 fAdd (eVar 6) (eTup (aCons (eC (.int 0)) aNil))) (aCons (eTup aNil) (aCons (eC .none) (aCons (eTup (aCons (eC (.int 0)) (aCons (eC (.int 1)) (aCons (eC (.int 0)) (aCons (eC (.int 1)) (aCons (eC (.int 1)) (aCons (eC (.int 2)) aNil))))))) (aCons (eTup (aCons (eC (.int 0)) (aCons (eC (.int 1)) (aCons (eC (.int 0)) (aCons (eC (.int 1)) (aCons (eC (.int 1)) (aCons (eC (.bool false)) aNil))))))) (aCons (eTup (aCons (eC (.int 0)) (aCons (eC (.int 1)) (aCons (eC (.int 0)) (aCons (eC (.int 1)) (aCons (eC (.int 1)) (aCons (e1 fNeg (eC (.int 1))) aNil))))))) aNil)))))))))))
  (mSeq (mAsg (gmName 9) (e2 fAdd (eVar 9) (eL (lLst (aCons (eTup (aCons (eC (.bool true)) (aCons (eC (.int 1)) (aCons (eC (.int 0)) (aCons (eC (.int 1)) (aCons (eC (.int 1)) (aCons (eC (.int 0)) aNil))))))) (aCons (eTup (aCons (eC (.int 0)) (aCons (eC (.int 1)) (aCons (eC (.int 0)) (aCons (eC (.int 1)) (aCons (eC (.int 1)) (aCons (eC (.str "0")) aNil))))))) (aCons (eTup (aCons (eC (.int 0)) (aCons (eC (.int 1)) (aCons (eC (.int 0)) (aCons (eC (.int 1)) (aCons (eC (.int 1)) (aCons (eC .none) aNil))))))) (aCons (eTup (aCons (eTup (aCons (eC (.int 0)) (aCons (eC (.int 1)) (aCons (eC (.int 0)) (aCons (eC (.int 1)) (aCons (eC (.int 1)) (aCons (eC (.int 0)) aNil))))))) aNil)) (aCons (eC (.str "010110")) aNil)))))))))
  (mSeq (mAsg (gmName 10) (e2 fAdd (eL (lLc (imSeq (eVar 7)) [11] (gmName 11) tmYes (eTup (aCons (e2 fIx (eVar 1) (eC (.int 0))) (aCons (eVar 11) (aCons (eVar 5) (aCons (eVar 6) aNil))))))) (eL (lLc (imSeq (eVar 8)) [11] (gmName 11) tmYes (eTup (aCons (e2 fIx (eVar 1) (eC (.int 0))) (aCons (eVar 4) (aCons (eVar 11) (aCons (eVar 6) aNil)))))))))
  (mSeq (mAsg (gmName 10) (e2 fAdd (eVar 10) (eL (lLc (imSeq (eVar 9)) [11] (gmName 11) tmYes (eTup (aCons (e2 fIx (eVar 1) (eC (.int 0))) (aCons (eVar 4) (aCons (eVar 5) (aCons (eVar 11) aNil)))))))))
  (mSeq (mAsg (gmName 10) (e2 fAdd (eVar 10) (eL (lLst (aCons (eL (lN fList (aCons (eVar 1) aNil))) (aCons (eSl (eVar 1) (oSome (eC (.int 1))) oNone) (aCons (eSl (eVar 1) oNone (oSome (eC (.int 3)))) (aCons (e2 fAdd (eVar 1) (eTup (aCons (eTup aNil) aNil))) (aCons (eTup (aCons (eC (.str "Begin")) (aCons (eVar 4) (aCons (eVar 5) (aCons (eVar 6) aNil))))) (aCons (eTup (aCons (eC (.str "fear")) (aCons (eTup (aCons (eC (.int 0)) aNil)) aNil))) (aCons (eTup aNil) (aCons (eC .none) aNil))))))))))))
  (mSeq (mAsg (gmName 10) (e2 fAdd (eVar 10) (eL (lLst (aCons (eTup (aCons (eC (.str "begin")) (aCons (eVar 5) (aCons (eVar 4) (aCons (eVar 6) aNil))))) (aCons (eTup (aCons (eC (.str "begin")) (aCons (eVar 4) (aCons (eVar 6) (aCons (eVar 5) aNil))))) (aCons (eTup (aCons (eC .none) (aCons (eVar 4) (aCons (eVar 5) (aCons (eVar 6) aNil))))) (aCons (eC (.str "begin")) (aCons (eSl (eVar 1) oNone (oSome (eC (.int 1)))) aNil)))))))))
  (mSeq (mFor (imSeq (eVar 10)) (gmName 11)
  (mIf (tmOr (tmNot (tmTru (eCall M__law_is_log (aCons (eTup (aCons (eVar 11) aNil)) (aCons (eC (.bool false)) aNil))))) (tmNot (tmTru (eCall M__law_is_log (aCons (e2 fAdd (eTup (aCons (eVar 11) aNil)) (eVar 0)) (aCons (eC (.bool false)) aNil))))))
  (mRet (eC (.bool false)))
  mNext))
  (mRet (eCall M__law_others_by_hand (aCons (eVar 1) (aCons (eVar 0) aNil))))))))))))))))))))))))
def M__law_log_by_hand : List D → Rs D := fnM 12 1 m__law_log_by_hand
/-- slots: 0 self, 1 ground, 2 net, 3 table -/
def m_LiveHouses____init__ : Sm :=
  (mSeq (mDrop (eCall M_a_want (aCons (eCall M_is_ground (aCons (eVar 1) aNil)) (aCons (eC (.str "ground")) aNil))))
  (mSeq (mDrop (eCall M_a_want (aCons (eCall M_is_net (aCons (eN fLen (aCons (e2 fIx (eVar 1) (eC (.int 0))) aNil)) (aCons (eVar 2) aNil))) (aCons (eC (.str "net")) aNil))))
  (mSeq (mDrop (eCall M_a_want (aCons (eCall M_is_table (aCons (e2 fIx (eVar 1) (eC (.int 0))) (aCons (eVar 3) aNil))) (aCons (eC (.str "table")) aNil))))
  (mSeq (mPutF 0 "LiveHouses" "_begun" (eTup (aCons (eVar 1) (aCons (eVar 2) (aCons (eVar 3) aNil)))))
  (mSeq (mPutF 0 "LiveHouses" "_state" (eTup (aCons (eVar 1) (aCons (eVar 2) (aCons (eVar 3) aNil)))))
  (mSeq (mPutF 0 "LiveHouses" "_done" (eL (lLst aNil)))
  (mSeq (mPutF 0 "LiveHouses" "_kept" (eL (lLst aNil)))
  (mSeq (mPutF 0 "LiveHouses" "_started" (eC (.int 0)))
  (mPutF 0 "LiveHouses" "_finished" (eC (.int 0)))))))))))
def M_LiveHouses____init__ : List D → Rs (List (D × D)) := fnV 4 4 m_LiveHouses____init__ "LiveHouses"
/-- slots: 0 fears, 1 lot, 2 fear -/
def m_feared_in : Sm :=
  (mRet (eN fAny (aCons (eL (lLc (imSeq (eVar 0)) [2] (gmName 2) tmYes (eCall M_lot_within (aCons (eVar 1) (aCons (eVar 2) aNil))))) aNil)))
def M_feared_in : List D → Rs D := fnM 3 2 m_feared_in
/-- slots: 0 many, 1 fears, 2 lot -/
def m_is_feared : Sm :=
  (mSeq (mDrop (eCall M_a_want (aCons (eCall M_many_fits (aCons (eVar 0) aNil)) (aCons (eC (.str "many")) aNil))))
  (mSeq (mDrop (eCall M_a_want (aCons (eCall M_fears_fit (aCons (eVar 0) (aCons (eVar 1) aNil))) (aCons (eC (.str "fears")) aNil))))
  (mSeq (mDrop (eCall M_a_want (aCons (eCall M_lot_fits (aCons (eVar 0) (aCons (eVar 2) aNil))) (aCons (eC (.str "lot")) aNil))))
  (mRet (eCall M_feared_in (aCons (eVar 1) (aCons (eVar 2) aNil)))))))
def M_is_feared : List D → Rs D := fnM 3 3 m_is_feared
/-- slots: 0 many, 1 thing -/
def m_is_lot : Sm :=
  (mSeq (mDrop (eCall M_a_want (aCons (eCall M_many_fits (aCons (eVar 0) aNil)) (aCons (eC (.str "many")) aNil))))
  (mRet (eCall M_lot_fits (aCons (eVar 0) (aCons (eVar 1) aNil)))))
def M_is_lot : List D → Rs D := fnM 2 2 m_is_lot
/-- slots: 0 many, 1 fears, 2 name, 3 lot, 4 known -/
def m__lot_reason : Sm :=
  (mSeq (mIf (tmOr (tmNot (tmTru (eCall M_is_lot (aCons (eVar 0) (aCons (eVar 3) aNil))))) (tmAnd (tmB (e2 fEq (eVar 2) (eC (.str "calm")))) (tmB (e2 fEq (eVar 3) (eTup aNil)))))
  (mRet (eC (.str "lot")))
  mNext)
  (mSeq (mAsg (gmName 4) (eCall M_is_feared (aCons (eVar 0) (aCons (eVar 1) (aCons (eVar 3) aNil)))))
  (mRet (eIf (tmB (e2 fEq (eVar 4) (e2 fEq (eVar 2) (eC (.str "fear"))))) (eC (.str "same")) (eC .none)))))
def M__lot_reason : List D → Rs D := fnM 5 4 m__lot_reason
/-- slots: 0 one, 1 other -/
def m_pair_of : Sm :=
  (mRet (eTup (aCons (eN fMin2 (aCons (eVar 0) (aCons (eVar 1) aNil))) (aCons (eN fMax2 (aCons (eVar 0) (aCons (eVar 1) aNil))) aNil))))
def M_pair_of : List D → Rs D := fnM 2 2 m_pair_of
/-- slots: 0 many, 1 net, 2 name, 3 one, 4 other, 5 known -/
def m__wire_reason : Sm :=
  (mSeq (mIf (tmOr (tmB (e2 fGe (eVar 3) (eVar 0))) (tmOr (tmB (e2 fGe (eVar 4) (eVar 0))) (tmB (e2 fEq (eVar 3) (eVar 4)))))
  (mRet (eC (.str "wire")))
  mNext)
  (mSeq (mAsg (gmName 5) (e2 fIn (eCall M_pair_of (aCons (eVar 3) (aCons (eVar 4) aNil))) (eVar 1)))
  (mRet (eIf (tmB (e2 fEq (eVar 5) (e2 fEq (eVar 2) (eC (.str "wire"))))) (eC (.str "same")) (eC .none)))))
def M__wire_reason : List D → Rs D := fnM 6 5 m__wire_reason
/-- slots: 0 sizes, 1 house, 2 choice -/
def m__leave_reason : Sm :=
  (mSeq (mIf (tmB (e2 fGe (eVar 1) (eN fLen (aCons (eVar 0) aNil))))
  (mRet (eC (.str "house")))
  mNext)
  (mSeq (mIf (tmB (e2 fGe (eVar 2) (e2 fIx (eVar 0) (eVar 1))))
  (mRet (eC (.str "choice")))
  mNext)
  (mRet (eIf (tmB (e2 fEq (eN fLen (aCons (eVar 0) aNil)) (eC (.int 1)))) (eC (.str "last")) (eC .none)))))
def M__leave_reason : List D → Rs D := fnM 3 3 m__leave_reason
/-- slots: 0 sizes, 1 thing, 2 choice, 3 size -/
def m_setting_fits : Sm :=
  (mSeq (mIf (tmOr (tmNot (tmTru (eIsi .tup (eVar 1)))) (tmB (e2 fNe (eN fLen (aCons (eVar 1) aNil)) (eN fLen (aCons (eVar 0) aNil)))))
  (mRet (eC (.bool false)))
  mNext)
  (mRet (eN fAll (aCons (eL (lLc (imRng zipB (aCons (eVar 1) (aCons (eVar 0) aNil))) [2, 3] (gmTup [2, 3]) tmYes (eAnd (eCall M_number_fits (aCons (eVar 2) aNil)) (e2 fLt (eVar 2) (eVar 3))))) aNil))))
def M_setting_fits : List D → Rs D := fnM 4 2 m_setting_fits
/-- slots: 0 sizes, 1 thing -/
def m_is_setting : Sm :=
  (mSeq (mDrop (eCall M_a_want (aCons (eCall M_sizes_fit (aCons (eVar 0) aNil)) (aCons (eC (.str "sizes")) aNil))))
  (mRet (eCall M_setting_fits (aCons (eVar 0) (aCons (eVar 1) aNil)))))
def M_is_setting : List D → Rs D := fnM 2 2 m_is_setting
/-- slots: 0 sizes, 1 setting, 2 place, 3 house -/
def m_place_by : Sm :=
  (mSeq (mAsg (gmName 2) (eC (.int 0)))
  (mSeq (mFor (imRng rng1 (aCons (eN fLen (aCons (eVar 0) aNil)) aNil)) (gmName 3)
  (mAsg (gmName 2) (e2 fAdd (e2 fMul (eVar 2) (e2 fIx (eVar 0) (eVar 3))) (e2 fIx (eVar 1) (eVar 3)))))
  (mRet (eVar 2))))
def M_place_by : List D → Rs D := fnM 4 2 m_place_by
/-- slots: 0 sizes, 1 table, 2 setting -/
def m_answer_at : Sm :=
  (mSeq (mDrop (eCall M_a_want (aCons (eCall M_is_sizes (aCons (eVar 0) aNil)) (aCons (eC (.str "sizes")) aNil))))
  (mSeq (mDrop (eCall M_a_want (aCons (eCall M_is_table (aCons (eVar 0) (aCons (eVar 1) aNil))) (aCons (eC (.str "table")) aNil))))
  (mSeq (mDrop (eCall M_a_want (aCons (eCall M_is_setting (aCons (eVar 0) (aCons (eVar 2) aNil))) (aCons (eC (.str "setting")) aNil))))
  (mRet (e2 fIx (eVar 1) (eCall M_place_by (aCons (eVar 0) (aCons (eVar 2) aNil))))))))
def M_answer_at : List D → Rs D := fnM 3 3 m_answer_at
/-- slots: 0 state, 1 event, 2 name, 3 net, 4 table, 5 sizes, 6 fears -/
def m_reason_for : Sm :=
  (mSeq (mAsg (gmT 3 (gmCons (gmT 2 (gmCons (gmName 5) (gmCons (gmName 6) gmNil))) (gmCons (gmName 3) (gmCons (gmName 4) gmNil)))) (eVar 0))
  (mSeq (mAsg (gmName 2) (e2 fIx (eVar 1) (eC (.int 0))))
  (mSeq (mIf (tmOr (tmB (e2 fEq (eVar 2) (eC (.str "fear")))) (tmB (e2 fEq (eVar 2) (eC (.str "calm")))))
  (mRet (eCall M__lot_reason (aCons (eN fLen (aCons (eVar 5) aNil)) (aCons (eVar 6) (aCons (eVar 2) (aCons (e2 fIx (eVar 1) (eC (.int 1))) aNil))))))
  mNext)
  (mSeq (mIf (tmB (e2 fEq (eVar 2) (eC (.str "answer"))))
  (mSeq (mIf (tmNot (tmTru (eCall M_is_setting (aCons (eVar 5) (aCons (e2 fIx (eVar 1) (eC (.int 1))) aNil)))))
  (mRet (eC (.str "setting")))
  mNext)
  (mRet (eIf (tmB (e2 fEq (eCall M_answer_at (aCons (eVar 5) (aCons (eVar 4) (aCons (e2 fIx (eVar 1) (eC (.int 1))) aNil)))) (e2 fIx (eVar 1) (eC (.int 2))))) (eC (.str "same")) (eC .none))))
  mNext)
  (mSeq (mIf (tmOr (tmB (e2 fEq (eVar 2) (eC (.str "wire")))) (tmB (e2 fEq (eVar 2) (eC (.str "unwire")))))
  (mRet (eCall M__wire_reason (aCons (eN fLen (aCons (eVar 5) aNil)) (aCons (eVar 3) (aCons (eVar 2) (aCons (e2 fIx (eVar 1) (eC (.int 1))) (aCons (e2 fIx (eVar 1) (eC (.int 2))) aNil)))))))
  mNext)
  (mSeq (mIf (tmB (e2 fEq (eVar 2) (eC (.str "leave"))))
  (mRet (eCall M__leave_reason (aCons (eVar 5) (aCons (e2 fIx (eVar 1) (eC (.int 1))) (aCons (e2 fIx (eVar 1) (eC (.int 2))) aNil)))))
  mNext)
  (mRet (eIf (tmB (e2 fGe (eN fLen (aCons (eVar 5) aNil)) (eC (.int 6)))) (eC (.str "many")) (eC .none)))))))))
def M_reason_for : List D → Rs D := fnM 7 2 m_reason_for
/-- slots: 0 self, 1 state, 2 many, 3 event -/
def m_LiveHouses___reason : Sm :=
  (mSeq (mIf (tmNot (tmTru (eCall M_is_event (aCons (eVar 3) aNil))))
  (mRet (eC (.str "shape")))
  mNext)
  (mSeq (mIf (tmB (e2 fGe (eVar 2) (eCon "LiveHouses" "MOST" (.int 40) (eVar 0))))
  (mRet (eC (.str "full")))
  mNext)
  (mRet (eCall M_reason_for (aCons (eVar 1) (aCons (eVar 3) aNil))))))
def M_LiveHouses___reason : List D → Rs D := fnM 4 4 m_LiveHouses___reason
/-- slots: 0 self, 1 event -/
def m_LiveHouses__barred : Sm :=
  (mRet (eMeth "LiveHouses" "_reason" M_LiveHouses___reason (eVar 0) (aCons (eFld "LiveHouses" "_state" (eVar 0)) (aCons (eN fLen (aCons (eFld "LiveHouses" "_done" (eVar 0)) aNil)) (aCons (eVar 1) aNil)))))
def M_LiveHouses__barred : List D → Rs D := fnM 2 2 m_LiveHouses__barred
/-- slots: 0 _law_live, 1 _law_rows, 2 _law_row, 3 _law_single, 4 _law_told_here, 5 _law_six, 6 _law_one -/
def m__law_reasons : Sm :=
  (mSeq (mAsg (gmName 0) (eMake "LiveHouses" M_LiveHouses____init__ (aCons (eTup (aCons (eTup (aCons (eC (.int 2)) (aCons (eC (.int 3)) (aCons (eC (.int 1)) aNil)))) (aCons (eTup (aCons (eTup (aCons (eC (.int 0)) (aCons (eC (.int 1)) aNil))) (aCons (eTup (aCons (eC (.int 2)) aNil)) aNil))) aNil))) (aCons (eTup (aCons (eTup (aCons (eC (.int 0)) (aCons (eC (.int 2)) aNil))) aNil)) (aCons (eTup (aCons (eC (.int 0)) (aCons (eC (.int 1)) (aCons (eC (.int 1)) (aCons (eC (.int 0)) (aCons (eC (.int 0)) (aCons (eC (.int 1)) aNil))))))) aNil)))))
  (mSeq (mAsg (gmName 1) (eL (lLst (aCons (eTup (aCons (eTup (aCons (eC (.str "fear")) (aCons (eTup (aCons (eC (.int 0)) aNil)) aNil))) (aCons (eC (.str "same")) aNil))) (aCons (eTup (aCons (eTup (aCons (eC (.str "fear")) (aCons (eTup aNil) aNil))) (aCons (eC (.str "same")) aNil))) (aCons (eTup (aCons (eTup (aCons (eC (.str "fear")) (aCons (eTup (aCons (eC (.int 0)) (aCons (eC (.int 2)) aNil))) aNil))) (aCons (eC .none) aNil))) (aCons (eTup (aCons (eTup (aCons (eC (.str "fear")) (aCons (eTup (aCons (eC (.int 0)) (aCons (eC (.int 3)) aNil))) aNil))) (aCons (eC (.str "lot")) aNil))) aNil)))))))
  (mSeq (mAsg (gmName 1) (e2 fAdd (eVar 1) (eL (lLst (aCons (eTup (aCons (eTup (aCons (eC (.str "calm")) (aCons (eTup aNil) aNil))) (aCons (eC (.str "lot")) aNil))) (aCons (eTup (aCons (eTup (aCons (eC (.str "calm")) (aCons (eTup (aCons (eC (.int 3)) aNil)) aNil))) (aCons (eC (.str "lot")) aNil))) (aCons (eTup (aCons (eTup (aCons (eC (.str "calm")) (aCons (eTup (aCons (eC (.int 0)) (aCons (eC (.int 2)) aNil))) aNil))) (aCons (eC (.str "same")) aNil))) (aCons (eTup (aCons (eTup (aCons (eC (.str "calm")) (aCons (eTup (aCons (eC (.int 2)) aNil)) aNil))) (aCons (eC .none) aNil))) aNil))))))))
  (mSeq (mAsg (gmName 1) (e2 fAdd (eVar 1) (eL (lLst (aCons (eTup (aCons (eTup (aCons (eC (.str "answer")) (aCons (eTup (aCons (eC (.int 0)) (aCons (eC (.int 0)) (aCons (eC (.int 0)) aNil)))) (aCons (eC (.int 0)) aNil)))) (aCons (eC (.str "same")) aNil))) (aCons (eTup (aCons (eTup (aCons (eC (.str "answer")) (aCons (eTup (aCons (eC (.int 0)) (aCons (eC (.int 0)) (aCons (eC (.int 0)) aNil)))) (aCons (eC (.int 1)) aNil)))) (aCons (eC .none) aNil))) (aCons (eTup (aCons (eTup (aCons (eC (.str "answer")) (aCons (eTup (aCons (eC (.int 1)) (aCons (eC (.int 2)) (aCons (eC (.int 0)) aNil)))) (aCons (eC (.int 0)) aNil)))) (aCons (eC .none) aNil))) aNil)))))))
  (mSeq (mAsg (gmName 1) (e2 fAdd (eVar 1) (eL (lLst (aCons (eTup (aCons (eTup (aCons (eC (.str "answer")) (aCons (eTup (aCons (eC (.int 0)) (aCons (eC (.int 3)) (aCons (eC (.int 0)) aNil)))) (aCons (eC (.int 1)) aNil)))) (aCons (eC (.str "setting")) aNil))) (aCons (eTup (aCons (eTup (aCons (eC (.str "answer")) (aCons (eTup (aCons (eC (.int 0)) (aCons (eC (.int 0)) aNil))) (aCons (eC (.int 1)) aNil)))) (aCons (eC (.str "setting")) aNil))) (aCons (eTup (aCons (eTup (aCons (eC (.str "calm")) (aCons (eTup (aCons (eC (.int 0)) aNil)) aNil))) (aCons (eC .none) aNil))) aNil)))))))
  (mSeq (mAsg (gmName 1) (e2 fAdd (eVar 1) (eL (lLst (aCons (eTup (aCons (eTup (aCons (eC (.str "answer")) (aCons (eTup (aCons (eC (.int 0)) (aCons (eC (.int 0)) (aCons (eC (.int 0)) (aCons (eC (.int 0)) aNil))))) (aCons (eC (.int 0)) aNil)))) (aCons (eC (.str "setting")) aNil))) (aCons (eTup (aCons (eTup (aCons (eC (.str "answer")) (aCons (eTup (aCons (eC (.int 2)) (aCons (eC (.int 0)) (aCons (eC (.int 0)) aNil)))) (aCons (eC (.int 0)) aNil)))) (aCons (eC (.str "setting")) aNil))) (aCons (eTup (aCons (eTup (aCons (eC (.str "enter")) aNil)) (aCons (eC .none) aNil))) aNil)))))))
  (mSeq (mAsg (gmName 1) (e2 fAdd (eVar 1) (eL (lLst (aCons (eTup (aCons (eTup (aCons (eC (.str "wire")) (aCons (eC (.int 0)) (aCons (eC (.int 2)) aNil)))) (aCons (eC (.str "same")) aNil))) (aCons (eTup (aCons (eTup (aCons (eC (.str "wire")) (aCons (eC (.int 2)) (aCons (eC (.int 0)) aNil)))) (aCons (eC (.str "same")) aNil))) (aCons (eTup (aCons (eTup (aCons (eC (.str "wire")) (aCons (eC (.int 1)) (aCons (eC (.int 1)) aNil)))) (aCons (eC (.str "wire")) aNil))) (aCons (eTup (aCons (eTup (aCons (eC (.str "wire")) (aCons (eC (.int 3)) (aCons (eC (.int 0)) aNil)))) (aCons (eC (.str "wire")) aNil))) aNil))))))))
  (mSeq (mAsg (gmName 1) (e2 fAdd (eVar 1) (eL (lLst (aCons (eTup (aCons (eTup (aCons (eC (.str "wire")) (aCons (eC (.int 2)) (aCons (eC (.int 1)) aNil)))) (aCons (eC .none) aNil))) (aCons (eTup (aCons (eTup (aCons (eC (.str "unwire")) (aCons (eC (.int 2)) (aCons (eC (.int 0)) aNil)))) (aCons (eC .none) aNil))) (aCons (eTup (aCons (eTup (aCons (eC (.str "unwire")) (aCons (eC (.int 0)) (aCons (eC (.int 1)) aNil)))) (aCons (eC (.str "same")) aNil))) (aCons (eTup (aCons (eTup (aCons (eC (.str "unwire")) (aCons (eC (.int 0)) (aCons (eC (.int 0)) aNil)))) (aCons (eC (.str "wire")) aNil))) aNil))))))))
  (mSeq (mAsg (gmName 1) (e2 fAdd (eVar 1) (eL (lLst (aCons (eTup (aCons (eTup (aCons (eC (.str "leave")) (aCons (eC (.int 3)) (aCons (eC (.int 9)) aNil)))) (aCons (eC (.str "house")) aNil))) (aCons (eTup (aCons (eTup (aCons (eC (.str "leave")) (aCons (eC (.int 2)) (aCons (eC (.int 1)) aNil)))) (aCons (eC (.str "choice")) aNil))) (aCons (eTup (aCons (eTup (aCons (eC (.str "leave")) (aCons (eC (.int 1)) (aCons (eC (.int 2)) aNil)))) (aCons (eC .none) aNil))) (aCons (eTup (aCons (eTup (aCons (eC (.str "unwire")) (aCons (eC (.int 0)) (aCons (eC (.int 3)) aNil)))) (aCons (eC (.str "wire")) aNil))) aNil))))))))
  (mSeq (mAsg (gmName 1) (e2 fAdd (eVar 1) (eL (lLst (aCons (eTup (aCons (eTup (aCons (eC (.str "leave")) (aCons (eC (.int 0)) (aCons (eC (.int 2)) aNil)))) (aCons (eC (.str "choice")) aNil))) (aCons (eTup (aCons (eTup (aCons (eC (.str "enter")) (aCons (eC (.int 0)) aNil))) (aCons (eC (.str "shape")) aNil))) (aCons (eTup (aCons (eTup (aCons (eC (.str "fear")) (aCons (eTup (aCons (eC (.int 3)) (aCons (eC (.int 1)) aNil))) aNil))) (aCons (eC (.str "shape")) aNil))) (aCons (eTup (aCons (eC .none) (aCons (eC (.str "shape")) aNil))) aNil))))))))
  (mSeq (mFor (imSeq (eVar 1)) (gmName 2)
  (mIf (tmB (e2 fNe (eMeth "LiveHouses" "barred" M_LiveHouses__barred (eVar 0) (aCons (e2 fIx (eVar 2) (eC (.int 0))) aNil)) (e2 fIx (eVar 2) (eC (.int 1)))))
  (mRet (eC (.bool false)))
  mNext))
  (mSeq (mAsg (gmName 3) (eMake "LiveHouses" M_LiveHouses____init__ (aCons (eTup (aCons (eTup (aCons (eC (.int 1)) aNil)) (aCons (eTup (aCons (eTup (aCons (eC (.int 0)) aNil)) aNil)) aNil))) (aCons (eTup aNil) (aCons (eTup (aCons (eC (.int 1)) aNil)) aNil)))))
  (mSeq (mAsg (gmName 4) (eL (lLcE (imSeq (eL (lLst (aCons (eTup (aCons (eC (.str "leave")) (aCons (eC (.int 0)) (aCons (eC (.int 0)) aNil)))) (aCons (eTup (aCons (eC (.str "leave")) (aCons (eC (.int 0)) (aCons (eC (.int 1)) aNil)))) (aCons (eTup (aCons (eC (.str "leave")) (aCons (eC (.int 1)) (aCons (eC (.int 0)) aNil)))) (aCons (eTup (aCons (eC (.str "calm")) (aCons (eTup (aCons (eC (.int 0)) aNil)) aNil))) (aCons (eTup (aCons (eC (.str "fear")) (aCons (eTup (aCons (eC (.int 0)) aNil)) aNil))) aNil)))))))) [6] (gmName 6) tmYes (eMeth "LiveHouses" "barred" M_LiveHouses__barred (eVar 3) (aCons (eVar 6) aNil)))))
  (mSeq (mIf (tmB (e2 fNe (eVar 4) (eL (lLst (aCons (eC (.str "last")) (aCons (eC (.str "choice")) (aCons (eC (.str "house")) (aCons (eC .none) (aCons (eC (.str "same")) aNil)))))))))
  (mRet (eC (.bool false)))
  mNext)
  (mSeq (mAsg (gmName 5) (eMake "LiveHouses" M_LiveHouses____init__ (aCons (eTup (aCons (eTup (aCons (eC (.int 1)) (aCons (eC (.int 1)) (aCons (eC (.int 1)) (aCons (eC (.int 1)) (aCons (eC (.int 1)) (aCons (eC (.int 1)) aNil))))))) (aCons (eTup (aCons (eTup (aCons (eC (.int 5)) aNil)) aNil)) aNil))) (aCons (eTup aNil) (aCons (eTup (aCons (eC (.int 0)) aNil)) aNil)))))
  (mSeq (mAsg (gmName 4) (eL (lLcE (imSeq (eL (lLst (aCons (eTup (aCons (eC (.str "enter")) aNil)) (aCons (eTup (aCons (eC (.str "leave")) (aCons (eC (.int 5)) (aCons (eC (.int 0)) aNil)))) (aCons (eTup (aCons (eC (.str "enter")) (aCons (eC (.int 6)) aNil))) (aCons (eTup (aCons (eC (.str "leave")) (aCons (eC (.int 6)) (aCons (eC (.int 0)) aNil)))) aNil))))))) [6] (gmName 6) tmYes (eMeth "LiveHouses" "barred" M_LiveHouses__barred (eVar 5) (aCons (eVar 6) aNil)))))
  (mRet (e2 fEq (eVar 4) (eL (lLst (aCons (eC (.str "many")) (aCons (eC .none) (aCons (eC (.str "shape")) (aCons (eC (.str "house")) aNil))))))))))))))))))))))))
def M__law_reasons : List D → Rs D := fnM 7 0 m__law_reasons
/-- slots: 0 _law_one, 1 _law_due, 2 _law_k -/
def m__law_same (R : List D → Rs D) : Sm :=
  (mSeq (mIf (tmOr (tmTru (eIsi .tup (eVar 1))) (tmTru (eIsi .lst (eVar 1))))
  (mSeq (mIf (tmOr (tmB (e2 fNe (eIsi .tup (eVar 0)) (eIsi .tup (eVar 1)))) (tmB (e2 fNe (eIsi .lst (eVar 0)) (eIsi .lst (eVar 1)))))
  (mRet (eC (.bool false)))
  mNext)
  (mSeq (mIf (tmB (e2 fNe (eN fLen (aCons (eVar 0) aNil)) (eN fLen (aCons (eVar 1) aNil))))
  (mRet (eC (.bool false)))
  mNext)
  (mSeq (mFor (imRng rng1 (aCons (eN fLen (aCons (eVar 1) aNil)) aNil)) (gmName 2)
  (mIf (tmNot (tmTru (eCall R (aCons (e2 fIx (eVar 0) (eVar 2)) (aCons (e2 fIx (eVar 1) (eVar 2)) aNil)))))
  (mRet (eC (.bool false)))
  mNext))
  (mRet (eC (.bool true))))))
  mNext)
  (mSeq (mIf (tmB (e2 fIs (eVar 1) (eC .none)))
  (mRet (e2 fIs (eVar 0) (eC .none)))
  mNext)
  (mSeq (mIf (tmTru (eIsi .str (eVar 1)))
  (mRet (eAnd (eIsi .str (eVar 0)) (e2 fEq (eVar 0) (eVar 1))))
  mNext)
  (mSeq (mIf (tmB (e2 fNe (eIsi .bool (eVar 0)) (eIsi .bool (eVar 1))))
  (mRet (eC (.bool false)))
  mNext)
  (mRet (eAnd (eIsi .int (eVar 0)) (e2 fEq (eVar 0) (eVar 1))))))))
def MR__law_same : Nat → List D → Rs D
  | 0 => fun _ => .stk
  | j + 1 => fnM 3 2 (m__law_same (MR__law_same j))
def M__law_same : List D → Rs D := MR__law_same 6
/-- slots: 0 self -/
def m_LiveHouses____len__ : Sm :=
  (mRet (eN fLen (aCons (eFld "LiveHouses" "_done" (eVar 0)) aNil)))
def M_LiveHouses____len__ : List D → Rs D := fnM 1 1 m_LiveHouses____len__
/-- slots: 0 _law_ground, 1 _law_net, 2 _law_table, 3 e -/
def m__law_made : Sm :=
  (mTryV [] (fun vs => [([(("NotUsable" : Str), true)], (xTup (xCons (xF "word") (xCons (xF "at") (fun _ => .ok [])))))]) (fun vs => (mRet (eAtV 3 [] vs (eLenO "LiveHouses" M_LiveHouses____len__ (aCons (eMake "LiveHouses" M_LiveHouses____init__ (aCons (eVar 0) (aCons (eVar 1) (aCons (eVar 2) aNil)))) aNil))))))
def M__law_made : List D → Rs D := fnM 4 3 m__law_made
/-- slots: 0 self, 1 setting -/
def m_LiveHouses____getitem__ : Sm :=
  (mSeq (mDrop (eCall M_a_want (aCons (eCall M_is_setting (aCons (e2 fIx (e2 fIx (eFld "LiveHouses" "_state" (eVar 0)) (eC (.int 0))) (eC (.int 0))) (aCons (eVar 1) aNil))) (aCons (eC (.str "setting")) aNil))))
  (mRet (eCall M_answer_at (aCons (e2 fIx (e2 fIx (eFld "LiveHouses" "_state" (eVar 0)) (eC (.int 0))) (eC (.int 0))) (aCons (e2 fIx (eFld "LiveHouses" "_state" (eVar 0)) (eC (.int 2))) (aCons (eVar 1) aNil))))))
def M_LiveHouses____getitem__ : List D → Rs D := fnM 2 2 m_LiveHouses____getitem__
/-- slots: 0 _law_live, 1 _law_setting, 2 e -/
def m__law_item : Sm :=
  (mTryV [] (fun vs => [([(("NotUsable" : Str), true)], (xTup (xCons (xF "word") (xCons (xF "at") (fun _ => .ok [])))))]) (fun vs => (mRet (eAtV 2 [] vs (eAtG "LiveHouses" M_LiveHouses____getitem__ (eVar 0) (eVar 1))))))
def M__law_item : List D → Rs D := fnM 3 2 m__law_item
/-- slots: 0 _law_ground, 1 _law_net, 2 _law_table, 3 _law_odd, 4 _law_live, 5 _law_told_here, 6 _law_one -/
def m__law_refused : Sm :=
  (mSeq (mAsg (gmName 0) (eTup (aCons (eTup (aCons (eC (.int 2)) (aCons (eC (.int 1)) (aCons (eC (.int 2)) aNil)))) (aCons (eTup (aCons (eTup (aCons (eC (.int 0)) (aCons (eC (.int 1)) aNil))) (aCons (eTup (aCons (eC (.int 2)) aNil)) aNil))) aNil))))
  (mSeq (mAsg (gmName 1) (eTup (aCons (eTup (aCons (eC (.int 0)) (aCons (eC (.int 1)) aNil))) (aCons (eTup (aCons (eC (.int 1)) (aCons (eC (.int 2)) aNil))) aNil))))
  (mSeq (mAsg (gmName 2) (eTup (aCons (eC (.int 0)) (aCons (eC (.int 1)) (aCons (eC (.int 1)) (aCons (eC (.int 0)) aNil))))))
  (mSeq (mIf (tmOr (tmNot (tmTru (eCall M__law_same (aCons (eCall M__law_made (aCons (eVar 0) (aCons (eVar 1) (aCons (eVar 2) aNil)))) (aCons (eC (.int 0)) aNil))))) (tmNot (tmTru (eCall M__law_same (aCons (eCall M__law_made (aCons (eVar 0) (aCons (eTup aNil) (aCons (eTup (aCons (eC (.int 1)) (aCons (eC (.int 1)) (aCons (eC (.int 1)) (aCons (eC (.int 1)) aNil))))) aNil)))) (aCons (eC (.int 0)) aNil))))))
  (mRet (eC (.bool false)))
  mNext)
  (mSeq (mFor (imSeq (eL (lLst (aCons (eC .none) (aCons (eL (lN fList (aCons (eVar 0) aNil))) (aCons (eTup (aCons (eTup (aCons (eC (.int 2)) (aCons (eC (.int 1)) (aCons (eC (.int 2)) aNil)))) (aCons (eTup aNil) aNil))) (aCons (eTup (aCons (eTup (aCons (eC (.int 2)) (aCons (eC (.bool true)) (aCons (eC (.int 2)) aNil)))) (aCons (e2 fIx (eVar 0) (eC (.int 1))) aNil))) (aCons (eTup (aCons (eTup (aCons (eC (.int 2)) (aCons (eC (.int 1)) (aCons (eC (.int 2)) aNil)))) (aCons (eTup (aCons (eTup (aCons (eC (.int 2)) aNil)) (aCons (eTup (aCons (eC (.int 0)) (aCons (eC (.int 1)) aNil))) aNil))) aNil))) (aCons (eTup (aCons (e2 fIx (eVar 0) (eC (.int 0))) aNil)) aNil))))))))) (gmName 3)
  (mSeq (mAsg (gmName 5) (eL (lLst (aCons (eCall M__law_made (aCons (eVar 3) (aCons (eVar 1) (aCons (eVar 2) aNil)))) (aCons (eCall M__law_made (aCons (eVar 3) (aCons (eC .none) (aCons (eC .none) aNil)))) aNil)))))
  (mIf (tmNot (tmTru (eCall M__law_same (aCons (eVar 5) (aCons (eL (lLst (aCons (eTup (aCons (eC (.str "ground")) (aCons (e1 fNeg (eC (.int 1))) aNil))) (aCons (eTup (aCons (eC (.str "ground")) (aCons (e1 fNeg (eC (.int 1))) aNil))) aNil)))) aNil)))))
  (mRet (eC (.bool false)))
  mNext)))
  (mSeq (mFor (imSeq (eL (lLst (aCons (eC .none) (aCons (eL (lN fList (aCons (eVar 1) aNil))) (aCons (eTup (aCons (eTup (aCons (eC (.int 1)) (aCons (eC (.int 0)) aNil))) aNil)) (aCons (eTup (aCons (eTup (aCons (eC (.int 0)) (aCons (eC (.int 3)) aNil))) aNil)) (aCons (eTup (aCons (eTup (aCons (eC (.int 1)) (aCons (eC (.int 2)) aNil))) (aCons (eTup (aCons (eC (.int 0)) (aCons (eC (.int 1)) aNil))) aNil))) (aCons (eTup (aCons (eTup (aCons (eC (.int 0)) (aCons (eC (.bool true)) aNil))) aNil)) (aCons (eTup (aCons (eTup (aCons (eC (.int 0)) (aCons (eC (.int 0)) aNil))) aNil)) (aCons (eTup (aCons (eL (lLst (aCons (eC (.int 0)) (aCons (eC (.int 1)) aNil)))) aNil)) aNil))))))))))) (gmName 3)
  (mSeq (mAsg (gmName 5) (eL (lLst (aCons (eCall M__law_made (aCons (eVar 0) (aCons (eVar 3) (aCons (eVar 2) aNil)))) (aCons (eCall M__law_made (aCons (eVar 0) (aCons (eVar 3) (aCons (eC .none) aNil)))) aNil)))))
  (mIf (tmNot (tmTru (eCall M__law_same (aCons (eVar 5) (aCons (eL (lLst (aCons (eTup (aCons (eC (.str "net")) (aCons (e1 fNeg (eC (.int 1))) aNil))) (aCons (eTup (aCons (eC (.str "net")) (aCons (e1 fNeg (eC (.int 1))) aNil))) aNil)))) aNil)))))
  (mRet (eC (.bool false)))
  mNext)))
  (mSeq (mFor (imSeq (eL (lLst (aCons (eC .none) (aCons (eL (lN fList (aCons (eVar 2) aNil))) (aCons (eTup (aCons (eC (.int 0)) (aCons (eC (.int 1)) (aCons (eC (.int 1)) aNil)))) (aCons (eTup (aCons (eC (.int 0)) (aCons (eC (.int 1)) (aCons (eC (.int 1)) (aCons (eC (.int 0)) (aCons (eC (.int 0)) aNil)))))) (aCons (eTup (aCons (eC (.int 0)) (aCons (eC (.int 1)) (aCons (eC (.int 1)) (aCons (eC (.bool false)) aNil))))) (aCons (eTup (aCons (eC (.int 0)) (aCons (eC (.int 1)) (aCons (eC (.int 1)) (aCons (eC (.int 2)) aNil))))) (aCons (eTup aNil) (aCons (eC (.str "0110")) aNil))))))))))) (gmName 3)
  (mIf (tmNot (tmTru (eCall M__law_same (aCons (eCall M__law_made (aCons (eVar 0) (aCons (eVar 1) (aCons (eVar 3) aNil)))) (aCons (eTup (aCons (eC (.str "table")) (aCons (e1 fNeg (eC (.int 1))) aNil))) aNil)))))
  (mRet (eC (.bool false)))
  mNext))
  (mSeq (mAsg (gmName 4) (eMake "LiveHouses" M_LiveHouses____init__ (aCons (eVar 0) (aCons (eVar 1) (aCons (eVar 2) aNil)))))
  (mSeq (mFor (imSeq (eL (lLst (aCons (eTup aNil) (aCons (eTup (aCons (eC (.int 0)) (aCons (eC (.int 0)) aNil))) (aCons (eTup (aCons (eC (.int 0)) (aCons (eC (.int 0)) (aCons (eC (.int 0)) (aCons (eC (.int 0)) aNil))))) (aCons (eTup (aCons (eC (.int 0)) (aCons (eC (.int 1)) (aCons (eC (.int 0)) aNil)))) (aCons (eTup (aCons (eC (.int 0)) (aCons (eC (.int 0)) (aCons (eC (.bool true)) aNil)))) (aCons (eTup (aCons (e1 fNeg (eC (.int 1))) (aCons (eC (.int 0)) (aCons (eC (.int 0)) aNil)))) (aCons (eTup (aCons (eC (.int 0)) (aCons (eC (.int 0)) (aCons (eC (.int 2)) aNil)))) (aCons (eL (lLst (aCons (eC (.int 0)) (aCons (eC (.int 0)) (aCons (eC (.int 0)) aNil))))) (aCons (eC .none) (aCons (eC (.int 0)) (aCons (eC (.str "000")) (aCons (eC (.bool true)) aNil))))))))))))))) (gmName 3)
  (mIf (tmNot (tmTru (eCall M__law_same (aCons (eCall M__law_item (aCons (eVar 4) (aCons (eVar 3) aNil))) (aCons (eTup (aCons (eC (.str "setting")) (aCons (e1 fNeg (eC (.int 1))) aNil))) aNil)))))
  (mRet (eC (.bool false)))
  mNext))
  (mRet (eCall M__law_same (aCons (eL (lLc (imSeq (eL (lLst (aCons (eTup (aCons (eC (.int 0)) (aCons (eC (.int 0)) (aCons (eC (.int 0)) aNil)))) (aCons (eTup (aCons (eC (.int 0)) (aCons (eC (.int 0)) (aCons (eC (.int 1)) aNil)))) (aCons (eTup (aCons (eC (.int 1)) (aCons (eC (.int 0)) (aCons (eC (.int 0)) aNil)))) (aCons (eTup (aCons (eC (.int 1)) (aCons (eC (.int 0)) (aCons (eC (.int 1)) aNil)))) aNil))))))) [6] (gmName 6) tmYes (eCall M__law_item (aCons (eVar 4) (aCons (eVar 6) aNil))))) (aCons (eL (lLst (aCons (eC (.int 0)) (aCons (eC (.int 1)) (aCons (eC (.int 1)) (aCons (eC (.int 0)) aNil)))))) aNil)))))))))))))
def M__law_refused : List D → Rs D := fnM 7 0 m__law_refused
/-- slots: 0 _law_feed_here, 1 _law_event, 2 _law_word, 3 _law_rest, 4 _law_bents_here, 5 _law_strange_here, 6 _law_lot_here, 7 _law_k, 8 _law_setting, 9 _law_odd -/
def m__law_bents : Sm :=
  (mSeq (mAsg (gmName 2) (e2 fIx (eVar 1) (eC (.int 0))))
  (mSeq (mAsg (gmName 3) (eSl (eVar 1) (oSome (eC (.int 1))) oNone))
  (mSeq (mAsgO 4 (lLst (aCons (eL (lN fList (aCons (eVar 1) aNil))) (aCons (e2 fAdd (eVar 1) (eTup (aCons (eC (.int 0)) aNil))) (aCons (e2 fAdd (eVar 1) (eTup (aCons (eTup aNil) aNil))) (aCons (eSl (eVar 1) oNone (oSome (e1 fNeg (eC (.int 1))))) (aCons (eTup (aCons (eVar 1) aNil)) (aCons (eVar 2) (aCons (e2 fAdd (eTup (aCons (eUp (eVar 2)) aNil)) (eVar 3)) (aCons (eL (lLst (aCons (eVar 2) aNil))) aNil))))))))))
  (mSeq (mAsgO 4 (l2 fAddL (eVar 4) (eL (lLst (aCons (e2 fAdd (eTup (aCons (e2 fAddS (eVar 2) (eC (.str " "))) aNil)) (eVar 3)) (aCons (e2 fAdd (eTup (aCons (eC (.str "begin")) aNil)) (eVar 3)) (aCons (e2 fAdd (eTup (aCons (eC (.str "")) aNil)) (eVar 3)) (aCons (e2 fAdd (eTup (aCons (eC .none) aNil)) (eVar 3)) (aCons (e2 fAdd (eTup (aCons (eC (.int 0)) aNil)) (eVar 3)) (aCons (eVar 3) aNil))))))))))
  (mSeq (mApp 4 (e2 fAdd (eTup (aCons (eTup (aCons (eC (.str "fear")) aNil)) aNil)) (eVar 3)))
  (mSeq (mAsg (gmName 5) (eCall M__law_strange aNil))
  (mSeq (mIf (tmOr (tmB (e2 fEq (eVar 2) (eC (.str "fear")))) (tmB (e2 fEq (eVar 2) (eC (.str "calm")))))
  (mSeq (mAsg (gmName 6) (e2 fIx (eVar 3) (eC (.int 0))))
  (mSeq (mAsg (gmName 7) (eCallD M__law_draw 0 (aCons (e2 fAdd (eN fLen (aCons (eVar 6) aNil)) (eC (.int 1))) aNil)))
  (mSeq (mAsgO 4 (l2 fAddL (eVar 4) (eL (lLc (imSeq (eVar 5)) [9] (gmName 9) tmYes (eTup (aCons (eVar 2) (aCons (e2 fAdd (e2 fAdd (eSl (eVar 6) oNone (oSome (eVar 7))) (eTup (aCons (eVar 9) aNil))) (eSl (eVar 6) (oSome (eVar 7)) oNone)) aNil)))))))
  (mSeq (mAsgO 4 (l2 fAddL (eVar 4) (eL (lLst (aCons (eTup (aCons (eVar 2) (aCons (eL (lN fList (aCons (eVar 6) aNil))) aNil))) (aCons (eTup (aCons (eVar 2) (aCons (eC .none) aNil))) (aCons (eTup (aCons (eVar 2) (aCons (eC (.bool true)) aNil))) (aCons (eTup (aCons (eVar 2) (aCons (eC (.int 0)) aNil))) (aCons (eTup (aCons (eVar 2) (aCons (eC (.str "0")) aNil))) aNil)))))))))
  (mSeq (mIf (tmB (e2 fGt (eN fLen (aCons (eVar 6) aNil)) (eC (.int 0))))
  (mAsgO 4 (l2 fAddL (eVar 4) (eL (lLst (aCons (eTup (aCons (eVar 2) (aCons (e2 fAdd (eVar 6) (eSl (eVar 6) (oSome (e1 fNeg (eC (.int 1)))) oNone)) aNil))) (aCons (eTup (aCons (eVar 2) (aCons (e2 fAdd (eSl (eVar 6) oNone (oSome (eC (.int 1)))) (eVar 6)) aNil))) (aCons (eTup (aCons (eVar 2) (aCons (e2 fAdd (eVar 6) (eTup (aCons (e2 fIx (eVar 6) (eC (.int 0))) aNil))) aNil))) aNil)))))))
  mNext)
  (mIf (tmB (e2 fGt (eN fLen (aCons (eVar 6) aNil)) (eC (.int 1))))
  (mApp 4 (eTup (aCons (eVar 2) (aCons (e2 fAdd (eSl (eVar 6) (oSome (eC (.int 1))) oNone) (eSl (eVar 6) oNone (oSome (eC (.int 1))))) aNil))))
  mNext))))))
  mNext)
  (mSeq (mIf (tmB (e2 fEq (eVar 2) (eC (.str "answer"))))
  (mSeq (mAsg (gmName 8) (e2 fIx (eVar 3) (eC (.int 0))))
  (mSeq (mAsg (gmName 7) (eCallD M__law_draw 0 (aCons (eN fLen (aCons (eVar 8) aNil)) aNil)))
  (mSeq (mAsgO 4 (l2 fAddL (eVar 4) (eL (lLc (imSeq (eVar 5)) [9] (gmName 9) tmYes (eTup (aCons (eVar 2) (aCons (e2 fAdd (e2 fAdd (eSl (eVar 8) oNone (oSome (eVar 7))) (eTup (aCons (eVar 9) aNil))) (eSl (eVar 8) (oSome (e2 fAdd (eVar 7) (eC (.int 1)))) oNone)) (aCons (e2 fIx (eVar 3) (eC (.int 1))) aNil))))))))
  (mSeq (mAsgO 4 (l2 fAddL (eVar 4) (eL (lLc (imSeq (e2 fAdd (eVar 5) (eL (lLst (aCons (eC (.int 2)) (aCons (e2 fPow (eC (.int 10)) (eC (.int 40))) aNil)))))) [9] (gmName 9) tmYes (eTup (aCons (eVar 2) (aCons (eVar 8) (aCons (eVar 9) aNil))))))))
  (mSeq (mAsgO 4 (l2 fAddL (eVar 4) (eL (lLst (aCons (eTup (aCons (eVar 2) (aCons (eTup aNil) (aCons (e2 fIx (eVar 3) (eC (.int 1))) aNil)))) (aCons (eTup (aCons (eVar 2) (aCons (eL (lN fList (aCons (eVar 8) aNil))) (aCons (e2 fIx (eVar 3) (eC (.int 1))) aNil)))) (aCons (eTup (aCons (eVar 2) (aCons (e2 fIx (eVar 3) (eC (.int 1))) (aCons (eVar 8) aNil)))) aNil)))))))
  (mAsgO 4 (l2 fAddL (eVar 4) (eL (lLst (aCons (eTup (aCons (eVar 2) (aCons (e2 fIx (eVar 8) (eC (.int 0))) (aCons (e2 fIx (eVar 3) (eC (.int 1))) aNil)))) (aCons (e2 fAdd (e2 fAdd (eTup (aCons (eVar 2) aNil)) (eVar 8)) (eTup (aCons (e2 fIx (eVar 3) (eC (.int 1))) (aCons (eC (.int 0)) aNil)))) aNil)))))))))))
  mNext)
  (mSeq (mIf (tmOr (tmB (e2 fEq (eVar 2) (eC (.str "wire")))) (tmOr (tmB (e2 fEq (eVar 2) (eC (.str "unwire")))) (tmB (e2 fEq (eVar 2) (eC (.str "leave"))))))
  (mSeq (mAsgO 4 (l2 fAddL (eVar 4) (eL (lLc (imSeq (eVar 5)) [9] (gmName 9) tmYes (eTup (aCons (eVar 2) (aCons (eVar 9) (aCons (e2 fIx (eVar 3) (eC (.int 1))) aNil))))))))
  (mSeq (mAsgO 4 (l2 fAddL (eVar 4) (eL (lLc (imSeq (eVar 5)) [9] (gmName 9) tmYes (eTup (aCons (eVar 2) (aCons (e2 fIx (eVar 3) (eC (.int 0))) (aCons (eVar 9) aNil))))))))
  (mAsgO 4 (l2 fAddL (eVar 4) (eL (lLst (aCons (eTup (aCons (eVar 2) (aCons (eVar 3) aNil))) (aCons (eTup (aCons (eVar 2) (aCons (e2 fIx (eVar 3) (eC (.int 0))) (aCons (e2 fIx (eVar 3) (eC (.int 1))) (aCons (e2 fIx (eVar 3) (eC (.int 1))) aNil))))) aNil))))))))
  mNext)
  (mRet (eVar 4)))))))))))
def M__law_bents : MO → List D → Rs (D × MO) := fnD 10 2 m__law_bents
/-- slots: 0 _law_thing -/
def m__law_number : Sm :=
  (mRet (eAnd (eIsi .int (eVar 0)) (eAnd (eNot (eIsi .bool (eVar 0))) (e2 fGe (eVar 0) (eC (.int 0))))))
def M__law_number : List D → Rs D := fnM 1 1 m__law_number
/-- slots: 0 _law_thing, 1 _law_one -/
def m__law_numbers : Sm :=
  (mSeq (mIf (tmNot (tmTru (eIsi .tup (eVar 0))))
  (mRet (eC (.bool false)))
  mNext)
  (mSeq (mFor (imSeq (eVar 0)) (gmName 1)
  (mIf (tmNot (tmTru (eCall M__law_number (aCons (eVar 1) aNil))))
  (mRet (eC (.bool false)))
  mNext))
  (mRet (eC (.bool true)))))
def M__law_numbers : List D → Rs D := fnM 2 1 m__law_numbers
/-- slots: 0 _law_thing, 1 _law_k -/
def m__law_rising : Sm :=
  (mSeq (mIf (tmNot (tmTru (eCall M__law_numbers (aCons (eVar 0) aNil))))
  (mRet (eC (.bool false)))
  mNext)
  (mSeq (mFor (imRng rng1 (aCons (e2 fSub (eN fLen (aCons (eVar 0) aNil)) (eC (.int 1))) aNil)) (gmName 1)
  (mIf (tmB (e2 fGe (e2 fIx (eVar 0) (eVar 1)) (e2 fIx (eVar 0) (e2 fAdd (eVar 1) (eC (.int 1))))))
  (mRet (eC (.bool false)))
  mNext))
  (mRet (eC (.bool true)))))
def M__law_rising : List D → Rs D := fnM 2 1 m__law_rising
/-- slots: 0 _law_thing, 1 _law_word -/
def m__law_form : Sm :=
  (mSeq (mIf (tmOr (tmNot (tmTru (eIsi .tup (eVar 0)))) (tmOr (tmB (e2 fEq (eN fLen (aCons (eVar 0) aNil)) (eC (.int 0)))) (tmNot (tmTru (eIsi .str (e2 fIx (eVar 0) (eC (.int 0))))))))
  (mRet (eC (.bool false)))
  mNext)
  (mSeq (mAsg (gmName 1) (e2 fIx (eVar 0) (eC (.int 0))))
  (mSeq (mIf (tmOr (tmB (e2 fEq (eVar 1) (eC (.str "fear")))) (tmB (e2 fEq (eVar 1) (eC (.str "calm")))))
  (mRet (eAnd (e2 fEq (eN fLen (aCons (eVar 0) aNil)) (eC (.int 2))) (eCall M__law_rising (aCons (e2 fIx (eVar 0) (eC (.int 1))) aNil))))
  mNext)
  (mSeq (mIf (tmB (e2 fEq (eVar 1) (eC (.str "answer"))))
  (mSeq (mIf (tmOr (tmB (e2 fNe (eN fLen (aCons (eVar 0) aNil)) (eC (.int 3)))) (tmOr (tmNot (tmTru (eCall M__law_numbers (aCons (e2 fIx (eVar 0) (eC (.int 1))) aNil)))) (tmB (e2 fEq (eN fLen (aCons (e2 fIx (eVar 0) (eC (.int 1))) aNil)) (eC (.int 0))))))
  (mRet (eC (.bool false)))
  mNext)
  (mRet (eAnd (eCall M__law_number (aCons (e2 fIx (eVar 0) (eC (.int 2))) aNil)) (e2 fLt (e2 fIx (eVar 0) (eC (.int 2))) (eC (.int 2))))))
  mNext)
  (mSeq (mIf (tmOr (tmB (e2 fEq (eVar 1) (eC (.str "wire")))) (tmOr (tmB (e2 fEq (eVar 1) (eC (.str "unwire")))) (tmB (e2 fEq (eVar 1) (eC (.str "leave"))))))
  (mRet (eAnd (e2 fEq (eN fLen (aCons (eVar 0) aNil)) (eC (.int 3))) (eAnd (eCall M__law_number (aCons (e2 fIx (eVar 0) (eC (.int 1))) aNil)) (eCall M__law_number (aCons (e2 fIx (eVar 0) (eC (.int 2))) aNil)))))
  mNext)
  (mRet (eAnd (e2 fEq (eVar 1) (eC (.str "enter"))) (e2 fEq (eN fLen (aCons (eVar 0) aNil)) (eC (.int 1))))))))))
def M__law_form : List D → Rs D := fnM 2 1 m__law_form
/-- slots: 0 _law_script, 1 _law_feed_here, 2 _law_events, 3 _law_odds, 4 _law_event, 5 _law_odd, 6 _law_k, 7 _law_goods, 8 _law_head, 9 _law_scene, 10 _law_thing, 11 _law_asis, 12 _law_cut -/
def m_law : Sm :=
  (mSeq (mAsgD 1 (lCall M__law_feed (aCons (eVar 0) aNil)))
  (mSeq (mIf (tmNot (tmTru (eCall M__law_by_hand aNil)))
  (mRet (eC (.bool false)))
  mNext)
  (mSeq (mAsg (gmName 2) (eL (lLc (imRng rng1 (aCons (eC (.int 4)) aNil)) [6] (gmName 6) tmYes (eCallD M__law_good 1 aNil))))
  (mSeq (mAsg (gmName 3) (eL (lLst aNil)))
  (mSeq (mFor (imSeq (eVar 2)) (gmName 4)
  (mSeq (mIf (tmOr (tmNot (tmTru (eCall M__law_form (aCons (eVar 4) aNil)))) (tmNot (tmTru (eCall M__law_told (aCons (eVar 4) (aCons (eC (.bool true)) aNil))))))
  (mRet (eC (.bool false)))
  mNext)
  (mAsg (gmName 3) (e2 fAdd (eVar 3) (eCallD M__law_bents 1 (aCons (eVar 4) aNil))))))
  (mSeq (mFor (imSeq (eVar 3)) (gmName 5)
  (mIf (tmNot (tmTru (eCall M__law_told (aCons (eVar 5) (aCons (eC (.bool false)) aNil)))))
  (mRet (eC (.bool false)))
  mNext))
  (mSeq (mFor (imRng rng1 (aCons (eC (.int 12)) aNil)) (gmName 6)
  (mSeq (mAsg (gmName 10) (eCallD M__law_any 1 (aCons (eC (.int 2)) aNil)))
  (mSeq (mAsg (gmName 11) (eN fRepr (aCons (eVar 10) aNil)))
  (mIf (tmOr (tmNot (tmTru (eCall M__law_told (aCons (eVar 10) (aCons (eCall M__law_form (aCons (eVar 10) aNil)) aNil))))) (tmB (e2 fNe (eN fRepr (aCons (eVar 10) aNil)) (eVar 11))))
  (mRet (eC (.bool false)))
  mNext))))
  (mSeq (mAsg (gmName 7) (eN fTuple (aCons (eVar 2) aNil)))
  (mSeq (mAsg (gmName 8) (eTup (aCons (eC (.str "begin")) (aCons (eTup (aCons (eTup (aCons (eC (.int 2)) (aCons (eC (.int 2)) aNil))) (aCons (eTup (aCons (eTup (aCons (eC (.int 0)) aNil)) (aCons (eTup (aCons (eC (.int 1)) aNil)) aNil))) aNil))) (aCons (eTup (aCons (eTup (aCons (eC (.int 0)) (aCons (eC (.int 1)) aNil))) aNil)) (aCons (eTup (aCons (eC (.int 0)) (aCons (eC (.int 1)) (aCons (eC (.int 1)) (aCons (eC (.int 0)) aNil))))) aNil))))))
  (mSeq (mFor (imRng rng1 (aCons (eC (.int 6)) aNil)) (gmName 6)
  (mSeq (mAsg (gmName 5) (e2 fIx (eVar 3) (eCallD M__law_draw 1 (aCons (eN fLen (aCons (eVar 3) aNil)) aNil))))
  (mSeq (mAsg (gmName 12) (eCallD M__law_draw 1 (aCons (eC (.int 5)) aNil)))
  (mIf (tmNot (tmTru (eCall M__law_is_log (aCons (e2 fAdd (e2 fAdd (e2 fAdd (eTup (aCons (eVar 8) aNil)) (eSl (eVar 7) oNone (oSome (eVar 12)))) (eTup (aCons (eVar 5) aNil))) (eSl (eVar 7) (oSome (eVar 12)) oNone)) (aCons (eC (.bool false)) aNil)))))
  (mRet (eC (.bool false)))
  mNext))))
  (mSeq (mAsg (gmName 9) (eCallD M__law_draw 1 (aCons (eC (.int 4)) aNil)))
  (mSeq (mIf (tmB (e2 fEq (eN fLen (aCons (eVar 0) aNil)) (eC (.int 0))))
  (mRet (eAnd (eCall M__law_log_by_hand (aCons (eVar 7) aNil)) (eAnd (eCall M__law_reasons aNil) (eCall M__law_refused aNil))))
  mNext)
  (mSeq (mIf (tmB (e2 fEq (eVar 9) (eC (.int 0))))
  (mRet (eCall M__law_log_by_hand (aCons (eVar 7) aNil)))
  mNext)
  (mSeq (mIf (tmB (e2 fEq (eVar 9) (eC (.int 1))))
  (mRet (eCall M__law_reasons aNil))
  mNext)
  (mSeq (mIf (tmB (e2 fEq (eVar 9) (eC (.int 2))))
  (mRet (eCall M__law_refused aNil))
  mNext)
  (mRet (eCall M__law_is_log (aCons (e2 fAdd (eTup (aCons (eVar 8) aNil)) (eVar 7)) (aCons (eC (.bool true)) aNil)))))))))))))))))))
def M_law : List D → Rs D := fnM 13 1 m_law
end K42
end
section
set_option Elab.async false
set_option linter.all false
set_option maxRecDepth 100000
set_option maxHeartbeats 4000000
namespace K42
open PySem PySem.Spec PyProof.Rows L2 Mir
def top (i : Nat) : Stmt := PySem.Challenge.pw_closereckoned_k42_events_by_form_and_ref.main.body.getD i (.Pass ⟨0, 0, 0, 0⟩)
abbrev s__law_feed : Stmt := top 74
abbrev N__law_feed : List Str := [("_law_script" : Str)]
def d__law_feed : He.DefD := ⟨("_law_feed", none), "_law_feed", "_law_feed", defArgs s__law_feed, defBody s__law_feed, defScope s__law_feed, [], []⟩
theorem sc__law_feed : FnScope N__law_feed [("_law_script" : Str)] d__law_feed.scope := ⟨rfl, rfl, rfl, by decide +kernel, rfl, by decide +kernel, by decide +kernel⟩
abbrev s__law_draw : Stmt := top 75
abbrev N__law_draw : List Str := [("_law_feed_here" : Str), ("_law_many" : Str), ("_law_cell" : Str), ("_law_digit" : Str)]
def d__law_draw : He.DefD := ⟨("_law_draw", none), "_law_draw", "_law_draw", defArgs s__law_draw, defBody s__law_draw, defScope s__law_draw, [], []⟩
theorem sc__law_draw : FnScope N__law_draw [("_law_feed_here" : Str), ("_law_many" : Str)] d__law_draw.scope := ⟨rfl, rfl, rfl, by decide +kernel, rfl, by decide +kernel, by decide +kernel⟩
abbrev s_a_want : Stmt := top 9
abbrev N_a_want : List Str := [("good" : Str), ("word" : Str)]
def d_a_want : He.DefD := ⟨("a_want", none), "a_want", "a_want", defArgs s_a_want, defBody s_a_want, defScope s_a_want, [], []⟩
theorem sc_a_want : FnScope N_a_want [("good" : Str), ("word" : Str)] d_a_want.scope := ⟨rfl, rfl, rfl, by decide +kernel, rfl, by decide +kernel, by decide +kernel⟩
abbrev s_integer_fits : Stmt := top 10
abbrev N_integer_fits : List Str := [("thing" : Str)]
def d_integer_fits : He.DefD := ⟨("integer_fits", none), "integer_fits", "integer_fits", defArgs s_integer_fits, defBody s_integer_fits, defScope s_integer_fits, [], []⟩
theorem sc_integer_fits : FnScope N_integer_fits [("thing" : Str)] d_integer_fits.scope := ⟨rfl, rfl, rfl, by decide +kernel, rfl, by decide +kernel, by decide +kernel⟩
abbrev s_number_fits : Stmt := top 11
abbrev N_number_fits : List Str := [("thing" : Str)]
def d_number_fits : He.DefD := ⟨("number_fits", none), "number_fits", "number_fits", defArgs s_number_fits, defBody s_number_fits, defScope s_number_fits, [], []⟩
theorem sc_number_fits : FnScope N_number_fits [("thing" : Str)] d_number_fits.scope := ⟨rfl, rfl, rfl, by decide +kernel, rfl, by decide +kernel, by decide +kernel⟩
abbrev s_house_fits : Stmt := top 15
abbrev N_house_fits : List Str := [("many" : Str), ("thing" : Str)]
def d_house_fits : He.DefD := ⟨("house_fits", none), "house_fits", "house_fits", defArgs s_house_fits, defBody s_house_fits, defScope s_house_fits, [], []⟩
theorem sc_house_fits : FnScope N_house_fits [("many" : Str), ("thing" : Str)] d_house_fits.scope := ⟨rfl, rfl, rfl, by decide +kernel, rfl, by decide +kernel, by decide +kernel⟩
abbrev s_wire_fits : Stmt := top 32
abbrev N_wire_fits : List Str := [("many" : Str), ("thing" : Str)]
def d_wire_fits : He.DefD := ⟨("wire_fits", none), "wire_fits", "wire_fits", defArgs s_wire_fits, defBody s_wire_fits, defScope s_wire_fits, [], []⟩
theorem sc_wire_fits : FnScope N_wire_fits [("many" : Str), ("thing" : Str)] d_wire_fits.scope := ⟨rfl, rfl, rfl, by decide +kernel, rfl, by decide +kernel, by decide +kernel⟩
abbrev s_net_fits : Stmt := top 33
abbrev N_net_fits : List Str := [("many" : Str), ("thing" : Str), ("at" : Str), ("wire" : Str)]
def d_net_fits : He.DefD := ⟨("net_fits", none), "net_fits", "net_fits", defArgs s_net_fits, defBody s_net_fits, defScope s_net_fits, [], []⟩
theorem sc_net_fits : FnScope N_net_fits [("many" : Str), ("thing" : Str)] d_net_fits.scope := ⟨rfl, rfl, rfl, by decide +kernel, rfl, by decide +kernel, by decide +kernel⟩
abbrev s_many_fits : Stmt := top 12
abbrev N_many_fits : List Str := [("thing" : Str)]
def d_many_fits : He.DefD := ⟨("many_fits", none), "many_fits", "many_fits", defArgs s_many_fits, defBody s_many_fits, defScope s_many_fits, [], []⟩
theorem sc_many_fits : FnScope N_many_fits [("thing" : Str)] d_many_fits.scope := ⟨rfl, rfl, rfl, by decide +kernel, rfl, by decide +kernel, by decide +kernel⟩
abbrev s_is_net : Stmt := top 35
abbrev N_is_net : List Str := [("many" : Str), ("thing" : Str)]
def d_is_net : He.DefD := ⟨("is_net", none), "is_net", "is_net", defArgs s_is_net, defBody s_is_net, defScope s_is_net, [], []⟩
theorem sc_is_net : FnScope N_is_net [("many" : Str), ("thing" : Str)] d_is_net.scope := ⟨rfl, rfl, rfl, by decide +kernel, rfl, by decide +kernel, by decide +kernel⟩
abbrev s_sizes_fit : Stmt := top 13
abbrev N_sizes_fit : List Str := [("thing" : Str), ("size" : Str)]
def d_sizes_fit : He.DefD := ⟨("sizes_fit", none), "sizes_fit", "sizes_fit", defArgs s_sizes_fit, defBody s_sizes_fit, defScope s_sizes_fit, [], []⟩
theorem sc_sizes_fit : FnScope N_sizes_fit [("thing" : Str)] d_sizes_fit.scope := ⟨rfl, rfl, rfl, by decide +kernel, rfl, by decide +kernel, by decide +kernel⟩
abbrev s_is_sizes : Stmt := top 27
abbrev N_is_sizes : List Str := [("thing" : Str)]
def d_is_sizes : He.DefD := ⟨("is_sizes", none), "is_sizes", "is_sizes", defArgs s_is_sizes, defBody s_is_sizes, defScope s_is_sizes, [], []⟩
theorem sc_is_sizes : FnScope N_is_sizes [("thing" : Str)] d_is_sizes.scope := ⟨rfl, rfl, rfl, by decide +kernel, rfl, by decide +kernel, by decide +kernel⟩
abbrev s_many_settings : Stmt := top 38
abbrev N_many_settings : List Str := [("sizes" : Str), ("many" : Str), ("size" : Str)]
def d_many_settings : He.DefD := ⟨("many_settings", none), "many_settings", "many_settings", defArgs s_many_settings, defBody s_many_settings, defScope s_many_settings, [], []⟩
theorem sc_many_settings : FnScope N_many_settings [("sizes" : Str)] d_many_settings.scope := ⟨rfl, rfl, rfl, by decide +kernel, rfl, by decide +kernel, by decide +kernel⟩
abbrev s_is_bit : Stmt := top 26
abbrev N_is_bit : List Str := [("thing" : Str)]
def d_is_bit : He.DefD := ⟨("is_bit", none), "is_bit", "is_bit", defArgs s_is_bit, defBody s_is_bit, defScope s_is_bit, [], []⟩
theorem sc_is_bit : FnScope N_is_bit [("thing" : Str)] d_is_bit.scope := ⟨rfl, rfl, rfl, by decide +kernel, rfl, by decide +kernel, by decide +kernel⟩
abbrev s_is_table : Stmt := top 41
abbrev N_is_table : List Str := [("sizes" : Str), ("thing" : Str), ("bit" : Str)]
def d_is_table : He.DefD := ⟨("is_table", none), "is_table", "is_table", defArgs s_is_table, defBody s_is_table, defScope s_is_table, [], []⟩
theorem sc_is_table : FnScope N_is_table [("sizes" : Str), ("thing" : Str)] d_is_table.scope := ⟨rfl, rfl, rfl, by decide +kernel, rfl, by decide +kernel, by decide +kernel⟩
abbrev s_lot_fits : Stmt := top 16
abbrev N_lot_fits : List Str := [("many" : Str), ("thing" : Str), ("last" : Str), ("house" : Str)]
def d_lot_fits : He.DefD := ⟨("lot_fits", none), "lot_fits", "lot_fits", defArgs s_lot_fits, defBody s_lot_fits, defScope s_lot_fits, [], []⟩
theorem sc_lot_fits : FnScope N_lot_fits [("many" : Str), ("thing" : Str)] d_lot_fits.scope := ⟨rfl, rfl, rfl, by decide +kernel, rfl, by decide +kernel, by decide +kernel⟩
abbrev s_is_lots : Stmt := top 17
abbrev N_is_lots : List Str := [("many" : Str), ("thing" : Str), ("lot" : Str)]
def d_is_lots : He.DefD := ⟨("is_lots", none), "is_lots", "is_lots", defArgs s_is_lots, defBody s_is_lots, defScope s_is_lots, [], []⟩
theorem sc_is_lots : FnScope N_is_lots [("many" : Str), ("thing" : Str)] d_is_lots.scope := ⟨rfl, rfl, rfl, by decide +kernel, rfl, by decide +kernel, by decide +kernel⟩
abbrev s_lot_within : Stmt := top 20
abbrev N_lot_within : List Str := [("one" : Str), ("other" : Str), ("house" : Str)]
def d_lot_within : He.DefD := ⟨("lot_within", none), "lot_within", "lot_within", defArgs s_lot_within, defBody s_lot_within, defScope s_lot_within, [], []⟩
theorem sc_lot_within : FnScope N_lot_within [("one" : Str), ("other" : Str)] d_lot_within.scope := ⟨rfl, rfl, rfl, by decide +kernel, rfl, by decide +kernel, by decide +kernel⟩
abbrev s_fears_fit : Stmt := top 18
abbrev N_fears_fit : List Str := [("many" : Str), ("thing" : Str), ("at" : Str), ("one" : Str), ("other" : Str)]
def d_fears_fit : He.DefD := ⟨("fears_fit", none), "fears_fit", "fears_fit", defArgs s_fears_fit, defBody s_fears_fit, defScope s_fears_fit, [], []⟩
theorem sc_fears_fit : FnScope N_fears_fit [("many" : Str), ("thing" : Str)] d_fears_fit.scope := ⟨rfl, rfl, rfl, by decide +kernel, rfl, by decide +kernel, by decide +kernel⟩
abbrev s_ground_fits : Stmt := top 19
abbrev N_ground_fits : List Str := [("thing" : Str)]
def d_ground_fits : He.DefD := ⟨("ground_fits", none), "ground_fits", "ground_fits", defArgs s_ground_fits, defBody s_ground_fits, defScope s_ground_fits, [], []⟩
theorem sc_ground_fits : FnScope N_ground_fits [("thing" : Str)] d_ground_fits.scope := ⟨rfl, rfl, rfl, by decide +kernel, rfl, by decide +kernel, by decide +kernel⟩
abbrev s_is_ground : Stmt := top 30
abbrev N_is_ground : List Str := [("thing" : Str)]
def d_is_ground : He.DefD := ⟨("is_ground", none), "is_ground", "is_ground", defArgs s_is_ground, defBody s_is_ground, defScope s_is_ground, [], []⟩
theorem sc_is_ground : FnScope N_is_ground [("thing" : Str)] d_is_ground.scope := ⟨rfl, rfl, rfl, by decide +kernel, rfl, by decide +kernel, by decide +kernel⟩
abbrev s__is_beginning : Stmt := top 49
abbrev N__is_beginning : List Str := [("thing" : Str), ("sizes" : Str), ("word" : Str), ("ground" : Str), ("net" : Str), ("table" : Str)]
def d__is_beginning : He.DefD := ⟨("_is_beginning", none), "_is_beginning", "_is_beginning", defArgs s__is_beginning, defBody s__is_beginning, defScope s__is_beginning, [], []⟩
theorem sc__is_beginning : FnScope N__is_beginning [("thing" : Str)] d__is_beginning.scope := ⟨rfl, rfl, rfl, by decide +kernel, rfl, by decide +kernel, by decide +kernel⟩
abbrev s_is_number : Stmt := top 25
abbrev N_is_number : List Str := [("thing" : Str)]
def d_is_number : He.DefD := ⟨("is_number", none), "is_number", "is_number", defArgs s_is_number, defBody s_is_number, defScope s_is_number, [], []⟩
theorem sc_is_number : FnScope N_is_number [("thing" : Str)] d_is_number.scope := ⟨rfl, rfl, rfl, by decide +kernel, rfl, by decide +kernel, by decide +kernel⟩
abbrev s__are_numbers : Stmt := top 46
abbrev N__are_numbers : List Str := [("thing" : Str), ("one" : Str)]
def d__are_numbers : He.DefD := ⟨("_are_numbers", none), "_are_numbers", "_are_numbers", defArgs s__are_numbers, defBody s__are_numbers, defScope s__are_numbers, [], []⟩
theorem sc__are_numbers : FnScope N__are_numbers [("thing" : Str)] d__are_numbers.scope := ⟨rfl, rfl, rfl, by decide +kernel, rfl, by decide +kernel, by decide +kernel⟩
abbrev s__is_lot_form : Stmt := top 47
abbrev N__is_lot_form : List Str := [("thing" : Str), ("k" : Str)]
def d__is_lot_form : He.DefD := ⟨("_is_lot_form", none), "_is_lot_form", "_is_lot_form", defArgs s__is_lot_form, defBody s__is_lot_form, defScope s__is_lot_form, [], []⟩
theorem sc__is_lot_form : FnScope N__is_lot_form [("thing" : Str)] d__is_lot_form.scope := ⟨rfl, rfl, rfl, by decide +kernel, rfl, by decide +kernel, by decide +kernel⟩
abbrev s_is_event : Stmt := top 48
abbrev N_is_event : List Str := [("thing" : Str), ("name" : Str)]
def d_is_event : He.DefD := ⟨("is_event", none), "is_event", "is_event", defArgs s_is_event, defBody s_is_event, defScope s_is_event, [], []⟩
theorem sc_is_event : FnScope N_is_event [("thing" : Str)] d_is_event.scope := ⟨rfl, rfl, rfl, by decide +kernel, rfl, by decide +kernel, by decide +kernel⟩
abbrev s_is_log : Stmt := top 50
abbrev N_is_log : List Str := [("thing" : Str), ("event" : Str)]
def d_is_log : He.DefD := ⟨("is_log", none), "is_log", "is_log", defArgs s_is_log, defBody s_is_log, defScope s_is_log, [], []⟩
theorem sc_is_log : FnScope N_is_log [("thing" : Str)] d_is_log.scope := ⟨rfl, rfl, rfl, by decide +kernel, rfl, by decide +kernel, by decide +kernel⟩
abbrev s__law_is_log : Stmt := top 90
abbrev N__law_is_log : List Str := [("_law_thing" : Str), ("_law_due" : Str), ("_law_one" : Str), ("_law_two" : Str)]
def d__law_is_log : He.DefD := ⟨("_law_is_log", none), "_law_is_log", "_law_is_log", defArgs s__law_is_log, defBody s__law_is_log, defScope s__law_is_log, [], []⟩
theorem sc__law_is_log : FnScope N__law_is_log [("_law_thing" : Str), ("_law_due" : Str)] d__law_is_log.scope := ⟨rfl, rfl, rfl, by decide +kernel, rfl, by decide +kernel, by decide +kernel⟩
abbrev s__law_told : Stmt := top 86
abbrev N__law_told : List Str := [("_law_thing" : Str), ("_law_due" : Str), ("_law_one" : Str), ("_law_two" : Str)]
def d__law_told : He.DefD := ⟨("_law_told", none), "_law_told", "_law_told", defArgs s__law_told, defBody s__law_told, defScope s__law_told, [], []⟩
theorem sc__law_told : FnScope N__law_told [("_law_thing" : Str), ("_law_due" : Str)] d__law_told.scope := ⟨rfl, rfl, rfl, by decide +kernel, rfl, by decide +kernel, by decide +kernel⟩
abbrev s__law_by_hand : Stmt := top 87
abbrev N__law_by_hand : List Str := [("_law_goods" : Str), ("_law_good_here" : Str), ("_law_bads" : Str), ("_law_bad" : Str)]
def d__law_by_hand : He.DefD := ⟨("_law_by_hand", none), "_law_by_hand", "_law_by_hand", defArgs s__law_by_hand, defBody s__law_by_hand, defScope s__law_by_hand, [], []⟩
theorem sc__law_by_hand : FnScope N__law_by_hand [] d__law_by_hand.scope := ⟨rfl, rfl, rfl, by decide +kernel, rfl, by decide +kernel, by decide +kernel⟩
abbrev s__law_lot : Stmt := top 81
abbrev N__law_lot : List Str := [("_law_feed_here" : Str), ("_law_lot_here" : Str), ("_law_house" : Str), ("_law_k" : Str)]
def d__law_lot : He.DefD := ⟨("_law_lot", none), "_law_lot", "_law_lot", defArgs s__law_lot, defBody s__law_lot, defScope s__law_lot, [], []⟩
theorem sc__law_lot : FnScope N__law_lot [("_law_feed_here" : Str)] d__law_lot.scope := ⟨rfl, rfl, rfl, by decide +kernel, rfl, by decide +kernel, by decide +kernel⟩
abbrev s__law_good : Stmt := top 82
abbrev N__law_good : List Str := [("_law_feed_here" : Str), ("_law_kind" : Str), ("_law_one" : Str), ("_law_other" : Str), ("_law_size" : Str), ("_law_k" : Str)]
def d__law_good : He.DefD := ⟨("_law_good", none), "_law_good", "_law_good", defArgs s__law_good, defBody s__law_good, defScope s__law_good, [], []⟩
theorem sc__law_good : FnScope N__law_good [("_law_feed_here" : Str)] d__law_good.scope := ⟨rfl, rfl, rfl, by decide +kernel, rfl, by decide +kernel, by decide +kernel⟩
abbrev s__law_strange : Stmt := top 83
abbrev N__law_strange : List Str := []
def d__law_strange : He.DefD := ⟨("_law_strange", none), "_law_strange", "_law_strange", defArgs s__law_strange, defBody s__law_strange, defScope s__law_strange, [], []⟩
theorem sc__law_strange : FnScope N__law_strange [] d__law_strange.scope := ⟨rfl, rfl, rfl, by decide +kernel, rfl, by decide +kernel, by decide +kernel⟩
abbrev s__law_any : Stmt := top 85
abbrev N__law_any : List Str := [("_law_feed_here" : Str), ("_law_depth" : Str), ("_law_kind" : Str), ("_law_size" : Str), ("_law_row" : Str), ("_law_k" : Str)]
def d__law_any : He.DefD := ⟨("_law_any", none), "_law_any", "_law_any", defArgs s__law_any, defBody s__law_any, defScope s__law_any, [], []⟩
theorem sc__law_any : FnScope N__law_any [("_law_feed_here" : Str), ("_law_depth" : Str)] d__law_any.scope := ⟨rfl, rfl, rfl, by decide +kernel, rfl, by decide +kernel, by decide +kernel⟩
abbrev s__law_others_by_hand : Stmt := top 89
abbrev N__law_others_by_hand : List Str := [("_law_head" : Str), ("_law_goods" : Str), ("_law_others" : Str), ("_law_one" : Str)]
def d__law_others_by_hand : He.DefD := ⟨("_law_others_by_hand", none), "_law_others_by_hand", "_law_others_by_hand", defArgs s__law_others_by_hand, defBody s__law_others_by_hand, defScope s__law_others_by_hand, [], []⟩
theorem sc__law_others_by_hand : FnScope N__law_others_by_hand [("_law_head" : Str), ("_law_goods" : Str)] d__law_others_by_hand.scope := ⟨rfl, rfl, rfl, by decide +kernel, rfl, by decide +kernel, by decide +kernel⟩
abbrev s__law_log_by_hand : Stmt := top 88
abbrev N__law_log_by_hand : List Str := [("_law_goods" : Str), ("_law_head" : Str), ("_law_logs" : Str), ("_law_log" : Str), ("_law_ground" : Str), ("_law_net" : Str), ("_law_table" : Str), ("_law_grounds" : Str), ("_law_nets" : Str), ("_law_tables" : Str), ("_law_heads" : Str), ("_law_one" : Str)]
def d__law_log_by_hand : He.DefD := ⟨("_law_log_by_hand", none), "_law_log_by_hand", "_law_log_by_hand", defArgs s__law_log_by_hand, defBody s__law_log_by_hand, defScope s__law_log_by_hand, [], []⟩
theorem sc__law_log_by_hand : FnScope N__law_log_by_hand [("_law_goods" : Str)] d__law_log_by_hand.scope := ⟨rfl, rfl, rfl, by decide +kernel, rfl, by decide +kernel, by decide +kernel⟩
abbrev s_LiveHouses____init__ : Stmt := clsBody (top 72) 1
abbrev N_LiveHouses____init__ : List Str := [("self" : Str), ("ground" : Str), ("net" : Str), ("table" : Str)]
def d_LiveHouses____init__ : He.DefD := ⟨("LiveHouses", some "__init__"), "__init__", "LiveHouses.__init__", defArgs s_LiveHouses____init__, defBody s_LiveHouses____init__, defScope s_LiveHouses____init__, [], []⟩
theorem sc_LiveHouses____init__ : FnScope N_LiveHouses____init__ [("self" : Str), ("ground" : Str), ("net" : Str), ("table" : Str)] d_LiveHouses____init__.scope := ⟨rfl, rfl, rfl, by decide +kernel, rfl, by decide +kernel, by decide +kernel⟩
abbrev s_feared_in : Stmt := top 22
abbrev N_feared_in : List Str := [("fears" : Str), ("lot" : Str), ("fear" : Str)]
def d_feared_in : He.DefD := ⟨("feared_in", none), "feared_in", "feared_in", defArgs s_feared_in, defBody s_feared_in, defScope s_feared_in, [], []⟩
theorem sc_feared_in : FnScope N_feared_in [("fears" : Str), ("lot" : Str)] d_feared_in.scope := ⟨rfl, rfl, rfl, by decide +kernel, rfl, by decide +kernel, by decide +kernel⟩
abbrev s_is_feared : Stmt := top 52
abbrev N_is_feared : List Str := [("many" : Str), ("fears" : Str), ("lot" : Str)]
def d_is_feared : He.DefD := ⟨("is_feared", none), "is_feared", "is_feared", defArgs s_is_feared, defBody s_is_feared, defScope s_is_feared, [], []⟩
theorem sc_is_feared : FnScope N_is_feared [("many" : Str), ("fears" : Str), ("lot" : Str)] d_is_feared.scope := ⟨rfl, rfl, rfl, by decide +kernel, rfl, by decide +kernel, by decide +kernel⟩
abbrev s_is_lot : Stmt := top 29
abbrev N_is_lot : List Str := [("many" : Str), ("thing" : Str)]
def d_is_lot : He.DefD := ⟨("is_lot", none), "is_lot", "is_lot", defArgs s_is_lot, defBody s_is_lot, defScope s_is_lot, [], []⟩
theorem sc_is_lot : FnScope N_is_lot [("many" : Str), ("thing" : Str)] d_is_lot.scope := ⟨rfl, rfl, rfl, by decide +kernel, rfl, by decide +kernel, by decide +kernel⟩
abbrev s__lot_reason : Stmt := top 63
abbrev N__lot_reason : List Str := [("many" : Str), ("fears" : Str), ("name" : Str), ("lot" : Str), ("known" : Str)]
def d__lot_reason : He.DefD := ⟨("_lot_reason", none), "_lot_reason", "_lot_reason", defArgs s__lot_reason, defBody s__lot_reason, defScope s__lot_reason, [], []⟩
theorem sc__lot_reason : FnScope N__lot_reason [("many" : Str), ("fears" : Str), ("name" : Str), ("lot" : Str)] d__lot_reason.scope := ⟨rfl, rfl, rfl, by decide +kernel, rfl, by decide +kernel, by decide +kernel⟩
abbrev s_pair_of : Stmt := top 64
abbrev N_pair_of : List Str := [("one" : Str), ("other" : Str)]
def d_pair_of : He.DefD := ⟨("pair_of", none), "pair_of", "pair_of", defArgs s_pair_of, defBody s_pair_of, defScope s_pair_of, [], []⟩
theorem sc_pair_of : FnScope N_pair_of [("one" : Str), ("other" : Str)] d_pair_of.scope := ⟨rfl, rfl, rfl, by decide +kernel, rfl, by decide +kernel, by decide +kernel⟩
abbrev s__wire_reason : Stmt := top 65
abbrev N__wire_reason : List Str := [("many" : Str), ("net" : Str), ("name" : Str), ("one" : Str), ("other" : Str), ("known" : Str)]
def d__wire_reason : He.DefD := ⟨("_wire_reason", none), "_wire_reason", "_wire_reason", defArgs s__wire_reason, defBody s__wire_reason, defScope s__wire_reason, [], []⟩
theorem sc__wire_reason : FnScope N__wire_reason [("many" : Str), ("net" : Str), ("name" : Str), ("one" : Str), ("other" : Str)] d__wire_reason.scope := ⟨rfl, rfl, rfl, by decide +kernel, rfl, by decide +kernel, by decide +kernel⟩
abbrev s__leave_reason : Stmt := top 66
abbrev N__leave_reason : List Str := [("sizes" : Str), ("house" : Str), ("choice" : Str)]
def d__leave_reason : He.DefD := ⟨("_leave_reason", none), "_leave_reason", "_leave_reason", defArgs s__leave_reason, defBody s__leave_reason, defScope s__leave_reason, [], []⟩
theorem sc__leave_reason : FnScope N__leave_reason [("sizes" : Str), ("house" : Str), ("choice" : Str)] d__leave_reason.scope := ⟨rfl, rfl, rfl, by decide +kernel, rfl, by decide +kernel, by decide +kernel⟩
abbrev s_setting_fits : Stmt := top 14
abbrev N_setting_fits : List Str := [("sizes" : Str), ("thing" : Str), ("choice" : Str), ("size" : Str)]
def d_setting_fits : He.DefD := ⟨("setting_fits", none), "setting_fits", "setting_fits", defArgs s_setting_fits, defBody s_setting_fits, defScope s_setting_fits, [], []⟩
theorem sc_setting_fits : FnScope N_setting_fits [("sizes" : Str), ("thing" : Str)] d_setting_fits.scope := ⟨rfl, rfl, rfl, by decide +kernel, rfl, by decide +kernel, by decide +kernel⟩
abbrev s_is_setting : Stmt := top 28
abbrev N_is_setting : List Str := [("sizes" : Str), ("thing" : Str)]
def d_is_setting : He.DefD := ⟨("is_setting", none), "is_setting", "is_setting", defArgs s_is_setting, defBody s_is_setting, defScope s_is_setting, [], []⟩
theorem sc_is_setting : FnScope N_is_setting [("sizes" : Str), ("thing" : Str)] d_is_setting.scope := ⟨rfl, rfl, rfl, by decide +kernel, rfl, by decide +kernel, by decide +kernel⟩
abbrev s_place_by : Stmt := top 39
abbrev N_place_by : List Str := [("sizes" : Str), ("setting" : Str), ("place" : Str), ("house" : Str)]
def d_place_by : He.DefD := ⟨("place_by", none), "place_by", "place_by", defArgs s_place_by, defBody s_place_by, defScope s_place_by, [], []⟩
theorem sc_place_by : FnScope N_place_by [("sizes" : Str), ("setting" : Str)] d_place_by.scope := ⟨rfl, rfl, rfl, by decide +kernel, rfl, by decide +kernel, by decide +kernel⟩
abbrev s_answer_at : Stmt := top 42
abbrev N_answer_at : List Str := [("sizes" : Str), ("table" : Str), ("setting" : Str)]
def d_answer_at : He.DefD := ⟨("answer_at", none), "answer_at", "answer_at", defArgs s_answer_at, defBody s_answer_at, defScope s_answer_at, [], []⟩
theorem sc_answer_at : FnScope N_answer_at [("sizes" : Str), ("table" : Str), ("setting" : Str)] d_answer_at.scope := ⟨rfl, rfl, rfl, by decide +kernel, rfl, by decide +kernel, by decide +kernel⟩
abbrev s_reason_for : Stmt := top 67
abbrev N_reason_for : List Str := [("state" : Str), ("event" : Str), ("name" : Str), ("net" : Str), ("table" : Str), ("sizes" : Str), ("fears" : Str)]
def d_reason_for : He.DefD := ⟨("reason_for", none), "reason_for", "reason_for", defArgs s_reason_for, defBody s_reason_for, defScope s_reason_for, [], []⟩
theorem sc_reason_for : FnScope N_reason_for [("state" : Str), ("event" : Str)] d_reason_for.scope := ⟨rfl, rfl, rfl, by decide +kernel, rfl, by decide +kernel, by decide +kernel⟩
abbrev s_LiveHouses___reason : Stmt := clsBody (top 72) 10
abbrev N_LiveHouses___reason : List Str := [("self" : Str), ("state" : Str), ("many" : Str), ("event" : Str)]
def d_LiveHouses___reason : He.DefD := ⟨("LiveHouses", some "_reason"), "_reason", "LiveHouses._reason", defArgs s_LiveHouses___reason, defBody s_LiveHouses___reason, defScope s_LiveHouses___reason, [], []⟩
theorem sc_LiveHouses___reason : FnScope N_LiveHouses___reason [("self" : Str), ("state" : Str), ("many" : Str), ("event" : Str)] d_LiveHouses___reason.scope := ⟨rfl, rfl, rfl, by decide +kernel, rfl, by decide +kernel, by decide +kernel⟩
abbrev s_LiveHouses__barred : Stmt := clsBody (top 72) 22
abbrev N_LiveHouses__barred : List Str := [("self" : Str), ("event" : Str)]
def d_LiveHouses__barred : He.DefD := ⟨("LiveHouses", some "barred"), "barred", "LiveHouses.barred", defArgs s_LiveHouses__barred, defBody s_LiveHouses__barred, defScope s_LiveHouses__barred, [], []⟩
theorem sc_LiveHouses__barred : FnScope N_LiveHouses__barred [("self" : Str), ("event" : Str)] d_LiveHouses__barred.scope := ⟨rfl, rfl, rfl, by decide +kernel, rfl, by decide +kernel, by decide +kernel⟩
abbrev s__law_reasons : Stmt := top 91
abbrev N__law_reasons : List Str := [("_law_live" : Str), ("_law_rows" : Str), ("_law_row" : Str), ("_law_single" : Str), ("_law_told_here" : Str), ("_law_six" : Str), ("_law_one" : Str)]
def d__law_reasons : He.DefD := ⟨("_law_reasons", none), "_law_reasons", "_law_reasons", defArgs s__law_reasons, defBody s__law_reasons, defScope s__law_reasons, [], []⟩
theorem sc__law_reasons : FnScope N__law_reasons [] d__law_reasons.scope := ⟨rfl, rfl, rfl, by decide +kernel, rfl, by decide +kernel, by decide +kernel⟩
abbrev s__law_same : Stmt := top 76
abbrev N__law_same : List Str := [("_law_one" : Str), ("_law_due" : Str), ("_law_k" : Str)]
def d__law_same : He.DefD := ⟨("_law_same", none), "_law_same", "_law_same", defArgs s__law_same, defBody s__law_same, defScope s__law_same, [], []⟩
theorem sc__law_same : FnScope N__law_same [("_law_one" : Str), ("_law_due" : Str)] d__law_same.scope := ⟨rfl, rfl, rfl, by decide +kernel, rfl, by decide +kernel, by decide +kernel⟩
abbrev s_LiveHouses____len__ : Stmt := clsBody (top 72) 30
abbrev N_LiveHouses____len__ : List Str := [("self" : Str)]
def d_LiveHouses____len__ : He.DefD := ⟨("LiveHouses", some "__len__"), "__len__", "LiveHouses.__len__", defArgs s_LiveHouses____len__, defBody s_LiveHouses____len__, defScope s_LiveHouses____len__, [], []⟩
theorem sc_LiveHouses____len__ : FnScope N_LiveHouses____len__ [("self" : Str)] d_LiveHouses____len__.scope := ⟨rfl, rfl, rfl, by decide +kernel, rfl, by decide +kernel, by decide +kernel⟩
abbrev s__law_made : Stmt := top 92
abbrev N__law_made : List Str := [("_law_ground" : Str), ("_law_net" : Str), ("_law_table" : Str), ("e" : Str)]
def d__law_made : He.DefD := ⟨("_law_made", none), "_law_made", "_law_made", defArgs s__law_made, defBody s__law_made, defScope s__law_made, [], []⟩
theorem sc__law_made : FnScope N__law_made [("_law_ground" : Str), ("_law_net" : Str), ("_law_table" : Str)] d__law_made.scope := ⟨rfl, rfl, rfl, by decide +kernel, rfl, by decide +kernel, by decide +kernel⟩
abbrev s_LiveHouses____getitem__ : Stmt := clsBody (top 72) 28
abbrev N_LiveHouses____getitem__ : List Str := [("self" : Str), ("setting" : Str)]
def d_LiveHouses____getitem__ : He.DefD := ⟨("LiveHouses", some "__getitem__"), "__getitem__", "LiveHouses.__getitem__", defArgs s_LiveHouses____getitem__, defBody s_LiveHouses____getitem__, defScope s_LiveHouses____getitem__, [], []⟩
theorem sc_LiveHouses____getitem__ : FnScope N_LiveHouses____getitem__ [("self" : Str), ("setting" : Str)] d_LiveHouses____getitem__.scope := ⟨rfl, rfl, rfl, by decide +kernel, rfl, by decide +kernel, by decide +kernel⟩
abbrev s__law_item : Stmt := top 93
abbrev N__law_item : List Str := [("_law_live" : Str), ("_law_setting" : Str), ("e" : Str)]
def d__law_item : He.DefD := ⟨("_law_item", none), "_law_item", "_law_item", defArgs s__law_item, defBody s__law_item, defScope s__law_item, [], []⟩
theorem sc__law_item : FnScope N__law_item [("_law_live" : Str), ("_law_setting" : Str)] d__law_item.scope := ⟨rfl, rfl, rfl, by decide +kernel, rfl, by decide +kernel, by decide +kernel⟩
abbrev s__law_refused : Stmt := top 94
abbrev N__law_refused : List Str := [("_law_ground" : Str), ("_law_net" : Str), ("_law_table" : Str), ("_law_odd" : Str), ("_law_live" : Str), ("_law_told_here" : Str), ("_law_one" : Str)]
def d__law_refused : He.DefD := ⟨("_law_refused", none), "_law_refused", "_law_refused", defArgs s__law_refused, defBody s__law_refused, defScope s__law_refused, [], []⟩
theorem sc__law_refused : FnScope N__law_refused [] d__law_refused.scope := ⟨rfl, rfl, rfl, by decide +kernel, rfl, by decide +kernel, by decide +kernel⟩
abbrev s__law_bents : Stmt := top 84
abbrev N__law_bents : List Str := [("_law_feed_here" : Str), ("_law_event" : Str), ("_law_word" : Str), ("_law_rest" : Str), ("_law_bents_here" : Str), ("_law_strange_here" : Str), ("_law_lot_here" : Str), ("_law_k" : Str), ("_law_setting" : Str), ("_law_odd" : Str)]
def d__law_bents : He.DefD := ⟨("_law_bents", none), "_law_bents", "_law_bents", defArgs s__law_bents, defBody s__law_bents, defScope s__law_bents, [], []⟩
theorem sc__law_bents : FnScope N__law_bents [("_law_feed_here" : Str), ("_law_event" : Str)] d__law_bents.scope := ⟨rfl, rfl, rfl, by decide +kernel, rfl, by decide +kernel, by decide +kernel⟩
abbrev s__law_number : Stmt := top 77
abbrev N__law_number : List Str := [("_law_thing" : Str)]
def d__law_number : He.DefD := ⟨("_law_number", none), "_law_number", "_law_number", defArgs s__law_number, defBody s__law_number, defScope s__law_number, [], []⟩
theorem sc__law_number : FnScope N__law_number [("_law_thing" : Str)] d__law_number.scope := ⟨rfl, rfl, rfl, by decide +kernel, rfl, by decide +kernel, by decide +kernel⟩
abbrev s__law_numbers : Stmt := top 78
abbrev N__law_numbers : List Str := [("_law_thing" : Str), ("_law_one" : Str)]
def d__law_numbers : He.DefD := ⟨("_law_numbers", none), "_law_numbers", "_law_numbers", defArgs s__law_numbers, defBody s__law_numbers, defScope s__law_numbers, [], []⟩
theorem sc__law_numbers : FnScope N__law_numbers [("_law_thing" : Str)] d__law_numbers.scope := ⟨rfl, rfl, rfl, by decide +kernel, rfl, by decide +kernel, by decide +kernel⟩
abbrev s__law_rising : Stmt := top 79
abbrev N__law_rising : List Str := [("_law_thing" : Str), ("_law_k" : Str)]
def d__law_rising : He.DefD := ⟨("_law_rising", none), "_law_rising", "_law_rising", defArgs s__law_rising, defBody s__law_rising, defScope s__law_rising, [], []⟩
theorem sc__law_rising : FnScope N__law_rising [("_law_thing" : Str)] d__law_rising.scope := ⟨rfl, rfl, rfl, by decide +kernel, rfl, by decide +kernel, by decide +kernel⟩
abbrev s__law_form : Stmt := top 80
abbrev N__law_form : List Str := [("_law_thing" : Str), ("_law_word" : Str)]
def d__law_form : He.DefD := ⟨("_law_form", none), "_law_form", "_law_form", defArgs s__law_form, defBody s__law_form, defScope s__law_form, [], []⟩
theorem sc__law_form : FnScope N__law_form [("_law_thing" : Str)] d__law_form.scope := ⟨rfl, rfl, rfl, by decide +kernel, rfl, by decide +kernel, by decide +kernel⟩
abbrev s_law : Stmt := top 95
abbrev N_law : List Str := [("_law_script" : Str), ("_law_feed_here" : Str), ("_law_events" : Str), ("_law_odds" : Str), ("_law_event" : Str), ("_law_odd" : Str), ("_law_k" : Str), ("_law_goods" : Str), ("_law_head" : Str), ("_law_scene" : Str), ("_law_thing" : Str), ("_law_asis" : Str), ("_law_cut" : Str)]
def d_law : He.DefD := ⟨("law", none), "law", "law", defArgs s_law, defBody s_law, defScope s_law, [], []⟩
theorem sc_law : FnScope N_law [("_law_script" : Str)] d_law.scope := ⟨rfl, rfl, rfl, by decide +kernel, rfl, by decide +kernel, by decide +kernel⟩
abbrev s_NotUsable : Stmt := clsBody (top 5) 0
def d_NotUsable : He.DefD := ⟨("NotUsable", some "__init__"), "__init__", "NotUsable.__init__", defArgs s_NotUsable, defBody s_NotUsable, defScope s_NotUsable, [], []⟩
theorem sc_NotUsable : FnScope [("self" : Str), "word", "at"] [("self" : Str), "word", "at"] d_NotUsable.scope := ⟨rfl, rfl, rfl, by decide +kernel, rfl, by decide +kernel, by decide +kernel⟩
def faL : List He.Fa := [.glo "_law_feed", .glo "_law_draw", .glo "a_want", .glo "integer_fits", .glo "number_fits", .glo "house_fits", .glo "wire_fits", .glo "net_fits", .glo "many_fits", .glo "is_net", .glo "sizes_fit", .glo "is_sizes", .glo "many_settings", .glo "is_bit", .glo "is_table", .glo "lot_fits", .glo "is_lots", .glo "lot_within", .glo "fears_fit", .glo "ground_fits", .glo "is_ground", .glo "_is_beginning", .glo "is_number", .glo "_are_numbers", .glo "_is_lot_form", .glo "is_event", .glo "is_log", .glo "_law_is_log", .glo "_law_told", .glo "_law_by_hand", .glo "_law_lot", .glo "_law_good", .glo "_law_strange", .glo "_law_any", .glo "_law_others_by_hand", .glo "_law_log_by_hand", .glo "LiveHouses", .glo "feared_in", .glo "is_feared", .glo "is_lot", .glo "_lot_reason", .glo "pair_of", .glo "_wire_reason", .glo "_leave_reason", .glo "setting_fits", .glo "is_setting", .glo "place_by", .glo "answer_at", .glo "reason_for", .glo "LiveHouses", .glo "LiveHouses", .glo "_law_reasons", .glo "_law_same", .glo "LiveHouses", .glo "_law_made", .glo "LiveHouses", .glo "_law_item", .glo "_law_refused", .glo "_law_bents", .glo "_law_number", .glo "_law_numbers", .glo "_law_rising", .glo "_law_form", .glo "law", .glo "NotUsable", .free "abs", .free "all", .free "any", .free "bool", .free "int", .free "isinstance", .free "len", .free "list", .free "max", .free "min", .free "range", .free "repr", .free "str", .free "tuple", .free "zip", .exm "NotUsable" "NotUsable" true, .exm "NotUsable" "NotUsable" true, .glo "LiveHouses", .cls "LiveHouses", .mkr "LiveHouses", .noat "LiveHouses" "_begun", .noat "LiveHouses" "_done", .noat "LiveHouses" "_finished", .noat "LiveHouses" "_kept", .noat "LiveHouses" "_started", .noat "LiveHouses" "_state", .meth "LiveHouses" "_reason", .meth "LiveHouses" "barred", .meth "LiveHouses" "__len__", .meth "LiveHouses" "__getitem__", .glo "COUNTS", .int "MOST_HOUSES" 6]
def fnL : List He.DefD := [d__law_feed, d__law_draw, d_a_want, d_integer_fits, d_number_fits, d_house_fits, d_wire_fits, d_net_fits, d_many_fits, d_is_net, d_sizes_fit, d_is_sizes, d_many_settings, d_is_bit, d_is_table, d_lot_fits, d_is_lots, d_lot_within, d_fears_fit, d_ground_fits, d_is_ground, d__is_beginning, d_is_number, d__are_numbers, d__is_lot_form, d_is_event, d_is_log, d__law_is_log, d__law_told, d__law_by_hand, d__law_lot, d__law_good, d__law_strange, d__law_any, d__law_others_by_hand, d__law_log_by_hand, d_LiveHouses____init__, d_feared_in, d_is_feared, d_is_lot, d__lot_reason, d_pair_of, d__wire_reason, d__leave_reason, d_setting_fits, d_is_setting, d_place_by, d_answer_at, d_reason_for, d_LiveHouses___reason, d_LiveHouses__barred, d__law_reasons, d__law_same, d_LiveHouses____len__, d__law_made, d_LiveHouses____getitem__, d__law_item, d__law_refused, d__law_bents, d__law_number, d__law_numbers, d__law_rising, d__law_form, d_law, d_NotUsable]
def ysL : List YesNo := errY "NotUsable" ("NotUsable", some "__init__") "word" "at" ++ [insY "LiveHouses", conY "LiveHouses" "MOST" 40, tabY "COUNTS" tbL_COUNTS, eqY "LiveHouses" ["LiveHouses"], neY "LiveHouses"]
abbrev TX (K : PySem.W.Frag) (mg : Str → Option Value) : Prop := Tx faL fnL ysL K mg
theorem mem_at {A : Type} {l : List A} {a : A} (i : Nat) (h : l[i]? = some a) : a ∈ l := List.mem_of_getElem? h
def icL : List (Str × Int) := [("MOST_HOUSES", 6)]
def scL : List (Str × Str) := []
def tcL : List (Str × List (Str × Int)) := [("COUNTS", tbL_COUNTS)]
abbrev GG (K : PySem.W.Frag) (mg : Str → Option Value) (w : World) : Prop := Gx icL scL tcL K mg w
section
variable {P : Program} {w : World} {K : PySem.W.Frag} {mg : Str → Option Value} {base : Heap} [gg : GG K mg w]
theorem gi_MOST_HOUSES {K : PySem.W.Frag} {mg : Str → Option Value} {w : World} [gg : GG K mg w] : ∃ t, mg "MOST_HOUSES" = some (.int 6 t) := gg.ci ("MOST_HOUSES", 6) (mem_at 0 rfl)
theorem tb_COUNTS : TabK K w "COUNTS" tbL_COUNTS ∧ mg "COUNTS" = some (.ref (He.ga K "COUNTS")) := gg.tb ("COUNTS", tbL_COUNTS) (mem_at 0 rfl)
theorem ic_mem : ∀ p ∈ icL, He.Fa.int p.1 p.2 ∈ faL := (List.forall_mem_cons.mpr ⟨mem_at 96 rfl, (fun _ h => by cases h)⟩)
theorem str_mem : ∀ p ∈ scL, He.Fa.str p.1 p.2 ∈ faL := (fun _ h => by cases h)
theorem tc_mem : ∀ p ∈ tcL, He.Fa.glo p.1 ∈ faL ∧ tabY p.1 p.2 ∈ ysL := (List.forall_mem_cons.mpr ⟨⟨mem_at 95 rfl, (by unfold ysL; exact List.mem_append_right _ (mem_at 2 rfl))⟩, (fun _ h => by cases h)⟩)
theorem hy_NotUsable : ∀ y ∈ errY "NotUsable" d_NotUsable.at_ "word" "at", y ∈ ysL := fun y h => by
  unfold ysL
  exact (List.mem_append_left _ h)
theorem err_NotUsable (T : TX K mg) : ErrC P w K mg base "NotUsable" "word" "at" d_NotUsable :=
  errC_of T (mem_at 64 rfl) rfl rfl (mem_at 64 rfl) hy_NotUsable sc_NotUsable (fun _ _ _ _ _ _ us hl => match us, hl with | [_, _, _], _ => rfl) fun X hN hs => by
    have h0 : X.N[0]? = some ("self" : Str) := by rw [hN]; rfl
    have h1 : X.N[1]? = some ("word" : Str) := by rw [hN]; rfl
    have h2 : X.N[2]? = some ("at" : Str) := by rw [hN]; rfl
    have v0 : Vis X.env.scope ("self" : Str) := by rw [hs]; exact Or.inl rfl
    have v1 : Vis X.env.scope ("word" : Str) := by rw [hs]; exact Or.inl rfl
    have v2 : Vis X.env.scope ("at" : Str) := by rw [hs]; exact Or.inl rfl
    exact pss_cons (ps_ost (pe_var h0 v0) (pe_var h1 v1)) (pss_one (ps_ost (pe_var h0 v0) (pe_var h2 v2)))
theorem xf_NotUsable (T : TX K mg) : XfC K (He.ga K "NotUsable") := xfB_ok (T.says.own (y := fun K => xfB K (He.ga K "NotUsable")) (hy_NotUsable _ (by simp [errY, errY1, d_NotUsable])))
theorem no_NotUsable_word (T : TX K mg) : PySem.W.findIn K (.ref (He.ga K "NotUsable")) "word" = some none := of_decide_eq_true (T.says.own (y := fun K => decide (PySem.W.findIn K (.ref (He.ga K "NotUsable")) "word" = some none)) (hy_NotUsable _ (by simp [errY, errY1, d_NotUsable])))
theorem no_NotUsable_at (T : TX K mg) : PySem.W.findIn K (.ref (He.ga K "NotUsable")) "at" = some none := of_decide_eq_true (T.says.own (y := fun K => decide (PySem.W.findIn K (.ref (He.ga K "NotUsable")) "at" = some none)) (hy_NotUsable _ (by simp [errY, errY1, d_NotUsable])))
theorem glo_LiveHouses (T : TX K mg) : mg "LiveHouses" = some (.ref (He.ga K "LiveHouses")) := T.glo "LiveHouses" (mem_at 82 rfl)
theorem cls_LiveHouses (T : TX K mg) : Cls K (He.ga K "LiveHouses") := He.cls_ok (T.says.fact (f := .cls "LiveHouses") (mem_at 83 rfl))
theorem mkr_LiveHouses (T : TX K mg) : Mk K (He.ga K "LiveHouses") (He.fAd K d_LiveHouses____init__.at_) := He.mkr_ok (T.says.fact (f := .mkr "LiveHouses") (mem_at 84 rfl))
theorem ins_LiveHouses (T : TX K mg) : InsOk K (He.ga K "LiveHouses") := insOk_of (cls_LiveHouses T) (T.says.own (y := insY "LiveHouses") (by unfold ysL; exact List.mem_append_right _ (mem_at 0 rfl)))
theorem no_LiveHouses__begun (T : TX K mg) : NoAttr K (He.ga K "LiveHouses") "_begun" := He.noat_ok (T.says.fact (f := .noat "LiveHouses" "_begun") (mem_at 85 rfl))
theorem no_LiveHouses__done (T : TX K mg) : NoAttr K (He.ga K "LiveHouses") "_done" := He.noat_ok (T.says.fact (f := .noat "LiveHouses" "_done") (mem_at 86 rfl))
theorem no_LiveHouses__finished (T : TX K mg) : NoAttr K (He.ga K "LiveHouses") "_finished" := He.noat_ok (T.says.fact (f := .noat "LiveHouses" "_finished") (mem_at 87 rfl))
theorem no_LiveHouses__kept (T : TX K mg) : NoAttr K (He.ga K "LiveHouses") "_kept" := He.noat_ok (T.says.fact (f := .noat "LiveHouses" "_kept") (mem_at 88 rfl))
theorem no_LiveHouses__started (T : TX K mg) : NoAttr K (He.ga K "LiveHouses") "_started" := He.noat_ok (T.says.fact (f := .noat "LiveHouses" "_started") (mem_at 89 rfl))
theorem no_LiveHouses__state (T : TX K mg) : NoAttr K (He.ga K "LiveHouses") "_state" := He.noat_ok (T.says.fact (f := .noat "LiveHouses" "_state") (mem_at 90 rfl))
theorem me_LiveHouses___reason (T : TX K mg) : Meth K (He.ga K "LiveHouses") "_reason" (He.fAd K d_LiveHouses___reason.at_) := He.meth_ok (T.says.fact (f := .meth "LiveHouses" "_reason") (mem_at 91 rfl))
theorem me_LiveHouses__barred (T : TX K mg) : Meth K (He.ga K "LiveHouses") "barred" (He.fAd K d_LiveHouses__barred.at_) := He.meth_ok (T.says.fact (f := .meth "LiveHouses" "barred") (mem_at 92 rfl))
theorem me_LiveHouses____len__ (T : TX K mg) : Meth K (He.ga K "LiveHouses") "__len__" (He.fAd K d_LiveHouses____len__.at_) := He.meth_ok (T.says.fact (f := .meth "LiveHouses" "__len__") (mem_at 93 rfl))
theorem me_LiveHouses____getitem__ (T : TX K mg) : Meth K (He.ga K "LiveHouses") "__getitem__" (He.fAd K d_LiveHouses____getitem__.at_) := He.meth_ok (T.says.fact (f := .meth "LiveHouses" "__getitem__") (mem_at 94 rfl))
theorem con_LiveHouses_MOST (T : TX K mg) : ∃ u, Con K (He.ga K "LiveHouses") "MOST" (.int 40) u := (He.conB_ok (T.says.own (y := conY "LiveHouses" "MOST" 40) (by unfold ysL; exact List.mem_append_right _ (mem_at 1 rfl))))
theorem hcm_NotUsable (T : TX K mg) : ∀ (x : Str) (bb : Bool) (C : Addr), (x, bb) ∈ [(("NotUsable" : Str), true)] → mg x = some (.ref C) → PySem.W.exmOne K (.ref C) (.ref (He.ga K "NotUsable")) = some bb := fun x bb C hm hC => by
  simp only [List.mem_cons, List.not_mem_nil, or_false, Prod.mk.injEq] at hm
  rcases hm with ⟨rfl, rfl⟩
  · have e := (T.glo "NotUsable" (mem_at 64 rfl)).symm.trans hC
    injection e with e
    injection e with e
    subst e
    exact He.exm_ok (T.says.fact (f := .exm "NotUsable" "NotUsable" true) (mem_at 81 rfl))
theorem onlym_NotUsable (T : TX K mg) {C : Addr} (h : ∃ x : Str, (x, true) ∈ [(("NotUsable" : Str), true)] ∧ mg x = some (.ref C)) : C = He.ga K "NotUsable" := by
  obtain ⟨x, hm, hC⟩ := h
  have hx : x = "NotUsable" := by simpa using hm
  subst hx
  have e := (T.glo "NotUsable" (mem_at 64 rfl)).symm.trans hC
  injection e with e
  injection e with e
  exact e.symm
theorem cal__law_feed (T : TX K mg) : CalG P w K mg base 1 d__law_feed [("_law_script" : Str)] (spO K mg M__law_feed) := by
  have f_list : mg "list" = none := T.free "list" (mem_at 72 rfl)
  obtain ⟨fd, F0⟩ := T.says.def_ (d := d__law_feed) (mem_at 0 rfl)
  have F : FunD K d__law_feed.name d__law_feed.qual d__law_feed.params d__law_feed.body d__law_feed.scope [] [] (He.fAd K d__law_feed.at_) fd := F0
  have B : Binds K fd [("_law_script" : Str)] [] := F.bindsN fun _ _ _ _ _ _ us hl => match us, hl with | [_], _ => rfl
  have glo : mg d__law_feed.name = some (.ref (He.fAd K d__law_feed.at_)) := T.glo "_law_feed" (mem_at 0 rfl)
  refine ⟨⟨fd, F, ?_, B⟩, glo⟩
  refine fnO_ok F sc__law_feed (by decide) ?_
  intro cdv A outer s H E hgd hr
  exact ⟨_, (pss_one (ps_ret (pe_lst (pa_cons (pe_callTy call_list_of (by rfl) (by exact f_list) (by decide +kernel) (pa_cons (pv 0) pa_nil)) (pa_cons pe_int (pa_cons pe_int (pa_cons pe_int (pa_cons pe_int pa_nil)))))))),
  (so_retL (sl_lst (sa_cons (se_l (sl_n o_list (sa_cons se_var sa_nil))) (sa_cons se_int (sa_cons se_int (sa_cons se_int (sa_cons se_int sa_nil)))))))⟩
theorem cal__law_draw (T : TX K mg) : CalG P w K mg base 1 d__law_draw [("_law_feed_here" : Str), ("_law_many" : Str)] (spD K mg M__law_draw) := by
  have f_abs : mg "abs" = none := T.free "abs" (mem_at 65 rfl)
  have f_int : mg "int" = none := T.free "int" (mem_at 69 rfl)
  have f_len : mg "len" = none := T.free "len" (mem_at 71 rfl)
  obtain ⟨fd, F0⟩ := T.says.def_ (d := d__law_draw) (mem_at 1 rfl)
  have F : FunD K d__law_draw.name d__law_draw.qual d__law_draw.params d__law_draw.body d__law_draw.scope [] [] (He.fAd K d__law_draw.at_) fd := F0
  have B : Binds K fd [("_law_feed_here" : Str), ("_law_many" : Str)] [] := F.bindsN fun _ _ _ _ _ _ us hl => match us, hl with | [_, _], _ => rfl
  have glo : mg d__law_draw.name = some (.ref (He.fAd K d__law_draw.at_)) := T.glo "_law_draw" (mem_at 1 rfl)
  refine ⟨⟨fd, F, ?_, B⟩, glo⟩
  refine fnD_ok F sc__law_draw (by decide) ?_
  intro cdv A outer s H E hgd hr
  exact ⟨_, (pss_cons (ps_if (PW.pt (pw_and (pt_cmpR (op_ltG (room65 hr)) (pe_ix ix_seq (pv 0) pe_int fun _ _ => rfl) (pv 1) (nomark _)) (pw_and1 (pt_cmpR (op_ltG (room65 hr)) (pe_ix ix_seq (pv 0) pe_int fun _ _ => rfl) (pe_callB call_len_seq (by rfl) (by exact f_len) (by decide +kernel) (pa_cons (pe_ix ix_seq (pv 0) pe_int fun _ _ => rfl) pa_nil)) (nomark _))))) (pss_cons (ps_set (i := 2) sc__law_draw.nd rfl (Or.inl rfl) (pe_ix ix_seq (pe_ix ix_seq (pv 0) pe_int fun _ _ => rfl) (pe_ix ix_seq (pv 0) pe_int fun _ _ => rfl) fun _ _ => rfl))
  (pss_cons (ps_asg (pe_op op_add3 (pe_ix ix_seq (pv 0) pe_int fun _ _ => rfl) pe_int) (pg_sub (pv 0) pe_int set_list))
  (pss_cons (ps_asg (pe_op op_mod (pe_callTy call_int1 (by rfl) (by exact f_int) (by decide +kernel) (pa_cons (pe_op op_add3 (pe_op op_add3 (pe_op op_mulX (pe_ix ix_seq (pv 0) pe_int fun _ _ => rfl) pe_int) (pv 2)) pe_int) pa_nil)) pe_int) (pg_sub (pv 0) pe_int set_list))
  (pss_one (ps_if (pt_cmpR (op_geG (room65 hr)) (pe_callB call_abs (by rfl) (by exact f_abs) (by decide +kernel) (pa_cons (pv 2) pa_nil)) (pe_op op_pow pe_int pe_int) (nomark _)) (pss_one (ps_asg (pe_callB call_abs (by rfl) (by exact f_abs) (by decide +kernel) (pa_cons (pv 2) pa_nil)) (pg_sub (pv 0) pe_int set_list))) pss_nil))))) pss_nil)
  (pss_cons (ps_if (pt_cmpR (op_geG (room65 hr)) (pe_ix ix_seq (pv 0) pe_int fun _ _ => rfl) (pv 1) (nomark _)) (pss_cons (ps_set (i := 3) sc__law_draw.nd rfl (Or.inl rfl) (pe_op op_mod (pe_callTy call_int1 (by rfl) (by exact f_int) (by decide +kernel) (pa_cons (pe_ix ix_seq (pv 0) pe_int fun _ _ => rfl) pa_nil)) (pv 1)))
  (pss_cons (ps_asg (pe_op op_fdivW (pe_ix ix_seq (pv 0) pe_int fun _ _ => rfl) (pv 1)) (pg_sub (pv 0) pe_int set_list))
  (pss_one (ps_ret (pv 3))))) pss_nil)
  (pss_cons (ps_asg (pe_op op_mod (pe_callTy call_int1 (by rfl) (by exact f_int) (by decide +kernel) (pa_cons (pe_op op_add3 (pe_op op_mulX (pe_ix ix_seq (pv 0) pe_int fun _ _ => rfl) pe_int) pe_int) pa_nil)) pe_int) (pg_sub (pv 0) pe_int set_list))
  (pss_cons (ps_asg (pe_op op_mod (pe_callTy call_int1 (by rfl) (by exact f_int) (by decide +kernel) (pa_cons (pe_op op_add3 (pe_op op_mulX (pe_ix ix_seq (pv 0) pe_int fun _ _ => rfl) pe_int) (pe_ix ix_seq (pv 0) pe_int fun _ _ => rfl)) pa_nil)) pe_int) (pg_sub (pv 0) pe_int set_list))
  (pss_one (ps_ret (pe_op op_mod (pe_callTy call_int1 (by rfl) (by exact f_int) (by decide +kernel) (pa_cons (pe_op op_add3 (pe_op op_fdivW (pe_ix ix_seq (pv 0) pe_int fun _ _ => rfl) pe_int) (pe_op op_fdivW (pe_ix ix_seq (pv 0) pe_int fun _ _ => rfl) pe_int)) pa_nil)) (pv 1)))))))),
  (ss_seq (ss_if (st_and (st_test (se_2 o_lt (se_dIx se_int) se_var)) (st_test (se_2 o_lt (se_dIx se_int) (se_n o_len (sa_cons (se_dIx se_int) sa_nil))))) (ss_seq (ss_asg (se_2 o_ix (se_dIx se_int) (se_dIx se_int)) sg_name)
  (ss_seq (ss_setD (se_2 o_add (se_dIx se_int) se_int) se_int)
  (ss_seq (ss_setD (se_2 o_mod (se_n o_int (sa_cons (se_2 o_add (se_2 o_add (se_2 o_mul (se_dIx se_int) se_int) se_var) se_int) sa_nil)) se_int) se_int)
  (ss_if (st_test (se_2 o_ge (se_n o_abs (sa_cons se_var sa_nil)) (se_2 o_pow se_int se_int))) (ss_setD (se_n o_abs (sa_cons se_var sa_nil)) se_int) ss_next)))) ss_next)
  (ss_seq (ss_if (st_test (se_2 o_ge (se_dIx se_int) se_var)) (ss_seq (ss_asg (se_2 o_mod (se_n o_int (sa_cons (se_dIx se_int) sa_nil)) se_var) sg_name)
  (ss_seq (ss_setD (se_2 o_div (se_dIx se_int) se_var) se_int)
  (ss_ret se_var))) ss_next)
  (ss_seq (ss_setD (se_2 o_mod (se_n o_int (sa_cons (se_2 o_add (se_2 o_mul (se_dIx se_int) se_int) se_int) sa_nil)) se_int) se_int)
  (ss_seq (ss_setD (se_2 o_mod (se_n o_int (sa_cons (se_2 o_add (se_2 o_mul (se_dIx se_int) se_int) (se_dIx se_int)) sa_nil)) se_int) se_int)
  (ss_ret (se_2 o_mod (se_n o_int (sa_cons (se_2 o_add (se_2 o_div (se_dIx se_int) se_int) (se_2 o_div (se_dIx se_int) se_int)) sa_nil)) se_var))))))⟩
theorem cal_a_want (T : TX K mg) : CalG P w K mg base 3 d_a_want [("good" : Str), ("word" : Str)] (spP K mg M_a_want) := by
  have E_NotUsable : ErrC P w K mg base "NotUsable" "word" "at" d_NotUsable := err_NotUsable T
  obtain ⟨fd, F0⟩ := T.says.def_ (d := d_a_want) (mem_at 2 rfl)
  have F : FunD K d_a_want.name d_a_want.qual d_a_want.params d_a_want.body d_a_want.scope [] [] (He.fAd K d_a_want.at_) fd := F0
  have B : Binds K fd [("good" : Str), ("word" : Str)] [] := F.bindsN fun _ _ _ _ _ _ us hl => match us, hl with | [_, _], _ => rfl
  have glo : mg d_a_want.name = some (.ref (He.fAd K d_a_want.at_)) := T.glo "a_want" (mem_at 2 rfl)
  refine ⟨⟨fd, F, ?_, B⟩, glo⟩
  refine fnP_ok F sc_a_want (by decide) ?_
  intro cdv A outer s H E hgd hr
  exact ⟨_, (pss_one (ps_if (pt_not (pt_truth (pv 0) fun _ => rfl)) (pss_one (ps_raiseCN E_NotUsable rfl hr (by decide) (L2N.takes_of rfl rfl rfl rfl) (pa_cons (pv 1) (pa_cons (pe_un un_neg pe_int) pa_nil)))) pss_nil)),
  (ss_if (st_not (st_tru se_var)) (ss_raise E_NotUsable.glo (sa_cons se_var (sa_cons (se_1 o_neg se_int) sa_nil))) ss_next)⟩
theorem cal_integer_fits (T : TX K mg) : CalG P w K mg base 1 d_integer_fits [("thing" : Str)] (spP K mg M_integer_fits) := by
  have f_bool : mg "bool" = none := T.free "bool" (mem_at 68 rfl)
  have f_int : mg "int" = none := T.free "int" (mem_at 69 rfl)
  have f_isinstance : mg "isinstance" = none := T.free "isinstance" (mem_at 70 rfl)
  obtain ⟨fd, F0⟩ := T.says.def_ (d := d_integer_fits) (mem_at 3 rfl)
  have F : FunD K d_integer_fits.name d_integer_fits.qual d_integer_fits.params d_integer_fits.body d_integer_fits.scope [] [] (He.fAd K d_integer_fits.at_) fd := F0
  have B : Binds K fd [("thing" : Str)] [] := F.bindsN fun _ _ _ _ _ _ us hl => match us, hl with | [_], _ => rfl
  have glo : mg d_integer_fits.name = some (.ref (He.fAd K d_integer_fits.at_)) := T.glo "integer_fits" (mem_at 3 rfl)
  refine ⟨⟨fd, F, ?_, B⟩, glo⟩
  refine fnP_ok F sc_integer_fits (by decide) ?_
  intro cdv A outer s H E hgd hr
  exact ⟨_, (pss_one (ps_ret (pe_and (pe_callB call_isiM (by rfl) (by exact f_isinstance) boot_isinstance (pa_cons (pv 0) (pa_cons (pe_bltn (v := .ty (Ty.nm .int)) (by rfl) (by exact f_int) (by decide +kernel) rfl) pa_nil))) (pe_one (pe_not (pe_callB call_isiM (by rfl) (by exact f_isinstance) boot_isinstance (pa_cons (pv 0) (pa_cons (pe_bltn (v := .ty (Ty.nm .bool)) (by rfl) (by exact f_bool) (by decide +kernel) rfl) pa_nil)))))))),
  (ss_ret (se_and (se_isi .int se_var) (se_not (se_isi .bool se_var))))⟩
theorem cal_number_fits (T : TX K mg) : CalG P w K mg base 2 d_number_fits [("thing" : Str)] (spP K mg M_number_fits) := by
  have c_integer_fits : CalG P w K mg base 1 d_integer_fits [("thing" : Str)] (spP K mg M_integer_fits) := cal_integer_fits T
  obtain ⟨fd, F0⟩ := T.says.def_ (d := d_number_fits) (mem_at 4 rfl)
  have F : FunD K d_number_fits.name d_number_fits.qual d_number_fits.params d_number_fits.body d_number_fits.scope [] [] (He.fAd K d_number_fits.at_) fd := F0
  have B : Binds K fd [("thing" : Str)] [] := F.bindsN fun _ _ _ _ _ _ us hl => match us, hl with | [_], _ => rfl
  have glo : mg d_number_fits.name = some (.ref (He.fAd K d_number_fits.at_)) := T.glo "number_fits" (mem_at 4 rfl)
  refine ⟨⟨fd, F, ?_, B⟩, glo⟩
  refine fnP_ok F sc_number_fits (by decide) ?_
  intro cdv A outer s H E hgd hr
  exact ⟨_, (pss_one (ps_ret (pe_and (pe_cal c_integer_fits hgd hr (by decide) (passEN (L2N.takes_of rfl rfl rfl rfl)) (pa_cons (pv 0) pa_nil)) (pe_one (pe_cmpR (op_geG (room65 hr)) (pv 0) pe_int (nomark _)))))),
  (ss_ret (se_and (se_callD (sa_cons se_var sa_nil)) (se_2 o_ge se_var se_int)))⟩
theorem cal_house_fits (T : TX K mg) : CalG P w K mg base 3 d_house_fits [("many" : Str), ("thing" : Str)] (spP K mg M_house_fits) := by
  have c_number_fits : CalG P w K mg base 2 d_number_fits [("thing" : Str)] (spP K mg M_number_fits) := cal_number_fits T
  obtain ⟨fd, F0⟩ := T.says.def_ (d := d_house_fits) (mem_at 5 rfl)
  have F : FunD K d_house_fits.name d_house_fits.qual d_house_fits.params d_house_fits.body d_house_fits.scope [] [] (He.fAd K d_house_fits.at_) fd := F0
  have B : Binds K fd [("many" : Str), ("thing" : Str)] [] := F.bindsN fun _ _ _ _ _ _ us hl => match us, hl with | [_, _], _ => rfl
  have glo : mg d_house_fits.name = some (.ref (He.fAd K d_house_fits.at_)) := T.glo "house_fits" (mem_at 5 rfl)
  refine ⟨⟨fd, F, ?_, B⟩, glo⟩
  refine fnP_ok F sc_house_fits (by decide) ?_
  intro cdv A outer s H E hgd hr
  exact ⟨_, (pss_one (ps_ret (pe_and (pe_cal c_number_fits hgd hr (by decide) (passEN (L2N.takes_of rfl rfl rfl rfl)) (pa_cons (pv 1) pa_nil)) (pe_one (pe_cmpR (op_ltG (room65 hr)) (pv 1) (pv 0) (nomark _)))))),
  (ss_ret (se_and (se_callD (sa_cons se_var sa_nil)) (se_2 o_lt se_var se_var)))⟩
theorem cal_wire_fits (T : TX K mg) : CalG P w K mg base 4 d_wire_fits [("many" : Str), ("thing" : Str)] (spP K mg M_wire_fits) := by
  have c_house_fits : CalG P w K mg base 3 d_house_fits [("many" : Str), ("thing" : Str)] (spP K mg M_house_fits) := cal_house_fits T
  have f_isinstance : mg "isinstance" = none := T.free "isinstance" (mem_at 70 rfl)
  have f_len : mg "len" = none := T.free "len" (mem_at 71 rfl)
  have f_tuple : mg "tuple" = none := T.free "tuple" (mem_at 78 rfl)
  obtain ⟨fd, F0⟩ := T.says.def_ (d := d_wire_fits) (mem_at 6 rfl)
  have F : FunD K d_wire_fits.name d_wire_fits.qual d_wire_fits.params d_wire_fits.body d_wire_fits.scope [] [] (He.fAd K d_wire_fits.at_) fd := F0
  have B : Binds K fd [("many" : Str), ("thing" : Str)] [] := F.bindsN fun _ _ _ _ _ _ us hl => match us, hl with | [_, _], _ => rfl
  have glo : mg d_wire_fits.name = some (.ref (He.fAd K d_wire_fits.at_)) := T.glo "wire_fits" (mem_at 6 rfl)
  refine ⟨⟨fd, F, ?_, B⟩, glo⟩
  refine fnP_ok F sc_wire_fits (by decide) ?_
  intro cdv A outer s H E hgd hr
  exact ⟨_, (pss_cons (ps_if (PW.pt (pw_or (pt_not (pt_truth (pe_callB call_isiM (by rfl) (by exact f_isinstance) boot_isinstance (pa_cons (pv 1) (pa_cons (pe_bltn (v := .ty (Ty.nm .tup)) (by rfl) (by exact f_tuple) (by decide +kernel) rfl) pa_nil))) fun _ => rfl)) (pw_or1 (pt_cmpR (op_neG (room65 hr)) (pe_callB call_len_seq (by rfl) (by exact f_len) (by decide +kernel) (pa_cons (pv 1) pa_nil)) pe_int (nomark _))))) (pss_one (ps_ret pe_bl)) pss_nil)
  (pss_one (ps_ret (pe_and (pe_cal c_house_fits hgd hr (by decide) (passEN (L2N.takes_of rfl rfl rfl rfl)) (pa_cons (pv 0) (pa_cons (pe_ix ix_seq (pv 1) pe_int fun _ _ => rfl) pa_nil))) (pe_and (pe_cal c_house_fits hgd hr (by decide) (passEN (L2N.takes_of rfl rfl rfl rfl)) (pa_cons (pv 0) (pa_cons (pe_ix ix_seq (pv 1) pe_int fun _ _ => rfl) pa_nil))) (pe_one (pe_cmpR (op_ltG (room65 hr)) (pe_ix ix_seq (pv 1) pe_int fun _ _ => rfl) (pe_ix ix_seq (pv 1) pe_int fun _ _ => rfl) (nomark _)))))))),
  (ss_seq (ss_if (st_or (st_not (st_tru (se_isi .tup se_var))) (st_test (se_2 o_ne (se_n o_len (sa_cons se_var sa_nil)) se_int))) (ss_ret se_bl) ss_next)
  (ss_ret (se_and (se_callD (sa_cons se_var (sa_cons (se_2 o_ix se_var se_int) sa_nil))) (se_and (se_callD (sa_cons se_var (sa_cons (se_2 o_ix se_var se_int) sa_nil))) (se_2 o_lt (se_2 o_ix se_var se_int) (se_2 o_ix se_var se_int))))))⟩
theorem cal_net_fits (T : TX K mg) : CalG P w K mg base 5 d_net_fits [("many" : Str), ("thing" : Str)] (spP K mg M_net_fits) := by
  have c_wire_fits : CalG P w K mg base 4 d_wire_fits [("many" : Str), ("thing" : Str)] (spP K mg M_wire_fits) := cal_wire_fits T
  have f_all : mg "all" = none := T.free "all" (mem_at 66 rfl)
  have f_isinstance : mg "isinstance" = none := T.free "isinstance" (mem_at 70 rfl)
  have f_len : mg "len" = none := T.free "len" (mem_at 71 rfl)
  have f_range : mg "range" = none := T.free "range" (mem_at 75 rfl)
  have f_tuple : mg "tuple" = none := T.free "tuple" (mem_at 78 rfl)
  obtain ⟨fd, F0⟩ := T.says.def_ (d := d_net_fits) (mem_at 7 rfl)
  have F : FunD K d_net_fits.name d_net_fits.qual d_net_fits.params d_net_fits.body d_net_fits.scope [] [] (He.fAd K d_net_fits.at_) fd := F0
  have B : Binds K fd [("many" : Str), ("thing" : Str)] [] := F.bindsN fun _ _ _ _ _ _ us hl => match us, hl with | [_, _], _ => rfl
  have glo : mg d_net_fits.name = some (.ref (He.fAd K d_net_fits.at_)) := T.glo "net_fits" (mem_at 7 rfl)
  refine ⟨⟨fd, F, ?_, B⟩, glo⟩
  refine fnP_ok F sc_net_fits (by decide) ?_
  intro cdv A outer s H E hgd hr
  exact ⟨_, (pss_cons (ps_if (PW.pt (pw_or (pt_not (pt_truth (pe_callB call_isiM (by rfl) (by exact f_isinstance) boot_isinstance (pa_cons (pv 1) (pa_cons (pe_bltn (v := .ty (Ty.nm .tup)) (by rfl) (by exact f_tuple) (by decide +kernel) rfl) pa_nil))) fun _ => rfl)) (pw_or1 (pt_not (pt_truth (pe_callB (cr_all (by rfl)) (by rfl) (by exact f_all) (by decide +kernel) (pa_cons (pe_lc (own := [(("wire" : Str), 3)]) (g := gName 3) rfl sc_net_fits.nd (pi_seq (pv 1)) (blkOk_by (own := [(("wire" : Str), 3)]) (N := N_net_fits) (sc := d_net_fits.scope) (by decide +kernel)) (fun _ _ _ _ _ => pg_name (i := 3) sc_net_fits.nd rfl (by first | exact Or.inl rfl | exact Or.inr rfl)) (fun _ _ _ _ _ => pts_nil) (fun _ _ _ _ _ => (pe_cal c_wire_fits hgd hr (by decide) passF (pa_cons (pv 0) (pa_cons (pv 3) pa_nil))))) pa_nil)) fun _ => rfl))))) (pss_one (ps_ret pe_bl)) pss_nil)
  (pss_cons (ps_for (passes_of rfl) rfl (pi_range2 (by rfl) (by exact f_range) (pa_cons pe_int (pa_cons (pe_callB call_len_seq (by rfl) (by exact f_len) (by decide +kernel) (pa_cons (pv 1) pa_nil)) pa_nil))) (pg_name (i := 2) sc_net_fits.nd rfl (Or.inl rfl)) (pss_one (ps_if (pt_cmpR (op_leG (room65 hr)) (pe_ix ix_seq (pv 1) (pv 2) fun _ _ => rfl) (pe_ix ix_seq (pv 1) (pe_op op_sub (pv 2) pe_int) fun _ _ => rfl) (nomark _)) (pss_one (ps_ret pe_bl)) pss_nil)))
  (pss_one (ps_ret pe_bl)))),
  (ss_seq (ss_if (st_or (st_not (st_tru (se_isi .tup se_var))) (st_not (st_tru (se_n o_all (sa_cons (se_l (sl_lc (si_seq se_var) (by decide) sg_name st_yes (se_callD (sa_cons se_var (sa_cons se_var sa_nil))))) sa_nil))))) (ss_ret se_bl) ss_next)
  (ss_seq (ss_for (si_rng2 (sa_cons se_int (sa_cons (se_n o_len (sa_cons se_var sa_nil)) sa_nil))) sg_name (ss_if (st_test (se_2 o_le (se_2 o_ix se_var se_var) (se_2 o_ix se_var (se_2 o_sub se_var se_int)))) (ss_ret se_bl) ss_next))
  (ss_ret se_bl)))⟩
theorem cal_many_fits (T : TX K mg) : CalG P w K mg base 2 d_many_fits [("thing" : Str)] (spP K mg M_many_fits) := by
  have c_integer_fits : CalG P w K mg base 1 d_integer_fits [("thing" : Str)] (spP K mg M_integer_fits) := cal_integer_fits T
  obtain ⟨fd, F0⟩ := T.says.def_ (d := d_many_fits) (mem_at 8 rfl)
  have F : FunD K d_many_fits.name d_many_fits.qual d_many_fits.params d_many_fits.body d_many_fits.scope [] [] (He.fAd K d_many_fits.at_) fd := F0
  have B : Binds K fd [("thing" : Str)] [] := F.bindsN fun _ _ _ _ _ _ us hl => match us, hl with | [_], _ => rfl
  have glo : mg d_many_fits.name = some (.ref (He.fAd K d_many_fits.at_)) := T.glo "many_fits" (mem_at 8 rfl)
  refine ⟨⟨fd, F, ?_, B⟩, glo⟩
  refine fnP_ok F sc_many_fits (by decide) ?_
  intro cdv A outer s H E hgd hr
  exact ⟨_, (pss_one (ps_ret (pe_and (pe_cal c_integer_fits hgd hr (by decide) (passEN (L2N.takes_of rfl rfl rfl rfl)) (pa_cons (pv 0) pa_nil)) (pe_one (pe_cmpR (op_geG (room65 hr)) (pv 0) pe_int (nomark _)))))),
  (ss_ret (se_and (se_callD (sa_cons se_var sa_nil)) (se_2 o_ge se_var se_int)))⟩
theorem cal_is_net (T : TX K mg) : CalG P w K mg base 6 d_is_net [("many" : Str), ("thing" : Str)] (spP K mg M_is_net) := by
  have c_a_want : CalG P w K mg base 3 d_a_want [("good" : Str), ("word" : Str)] (spP K mg M_a_want) := cal_a_want T
  have c_net_fits : CalG P w K mg base 5 d_net_fits [("many" : Str), ("thing" : Str)] (spP K mg M_net_fits) := cal_net_fits T
  have c_many_fits : CalG P w K mg base 2 d_many_fits [("thing" : Str)] (spP K mg M_many_fits) := cal_many_fits T
  obtain ⟨fd, F0⟩ := T.says.def_ (d := d_is_net) (mem_at 9 rfl)
  have F : FunD K d_is_net.name d_is_net.qual d_is_net.params d_is_net.body d_is_net.scope [] [] (He.fAd K d_is_net.at_) fd := F0
  have B : Binds K fd [("many" : Str), ("thing" : Str)] [] := F.bindsN fun _ _ _ _ _ _ us hl => match us, hl with | [_, _], _ => rfl
  have glo : mg d_is_net.name = some (.ref (He.fAd K d_is_net.at_)) := T.glo "is_net" (mem_at 9 rfl)
  refine ⟨⟨fd, F, ?_, B⟩, glo⟩
  refine fnP_ok F sc_is_net (by decide) ?_
  intro cdv A outer s H E hgd hr
  exact ⟨_, (pss_cons (ps_expr (pe_cal c_a_want hgd hr (by decide) (passEN (L2N.takes_of rfl rfl rfl rfl)) (pa_cons (pe_cal c_many_fits hgd hr (by decide) (passEN (L2N.takes_of rfl rfl rfl rfl)) (pa_cons (pv 0) pa_nil)) (pa_cons pe_str pa_nil))))
  (pss_one (ps_ret (pe_cal c_net_fits hgd hr (by decide) (passEN (L2N.takes_of rfl rfl rfl rfl)) (pa_cons (pv 0) (pa_cons (pv 1) pa_nil)))))),
  (ss_seq (ss_drop (se_callD (sa_cons (se_callD (sa_cons se_var sa_nil)) (sa_cons se_str sa_nil))))
  (ss_ret (se_callD (sa_cons se_var (sa_cons se_var sa_nil)))))⟩
theorem cal_sizes_fit (T : TX K mg) : CalG P w K mg base 3 d_sizes_fit [("thing" : Str)] (spP K mg M_sizes_fit) := by
  have c_many_fits : CalG P w K mg base 2 d_many_fits [("thing" : Str)] (spP K mg M_many_fits) := cal_many_fits T
  have f_all : mg "all" = none := T.free "all" (mem_at 66 rfl)
  have f_isinstance : mg "isinstance" = none := T.free "isinstance" (mem_at 70 rfl)
  have f_len : mg "len" = none := T.free "len" (mem_at 71 rfl)
  have f_tuple : mg "tuple" = none := T.free "tuple" (mem_at 78 rfl)
  obtain ⟨fd, F0⟩ := T.says.def_ (d := d_sizes_fit) (mem_at 10 rfl)
  have F : FunD K d_sizes_fit.name d_sizes_fit.qual d_sizes_fit.params d_sizes_fit.body d_sizes_fit.scope [] [] (He.fAd K d_sizes_fit.at_) fd := F0
  have B : Binds K fd [("thing" : Str)] [] := F.bindsN fun _ _ _ _ _ _ us hl => match us, hl with | [_], _ => rfl
  have glo : mg d_sizes_fit.name = some (.ref (He.fAd K d_sizes_fit.at_)) := T.glo "sizes_fit" (mem_at 10 rfl)
  refine ⟨⟨fd, F, ?_, B⟩, glo⟩
  refine fnP_ok F sc_sizes_fit (by decide) ?_
  intro cdv A outer s H E hgd hr
  exact ⟨_, (pss_one (ps_ret (pe_and (pe_callB call_isiM (by rfl) (by exact f_isinstance) boot_isinstance (pa_cons (pv 0) (pa_cons (pe_bltn (v := .ty (Ty.nm .tup)) (by rfl) (by exact f_tuple) (by decide +kernel) rfl) pa_nil))) (pe_and (pe_cmpR (op_gtG (room65 hr)) (pe_callB call_len_seq (by rfl) (by exact f_len) (by decide +kernel) (pa_cons (pv 0) pa_nil)) pe_int (nomark _)) (pe_one (pe_callB (cr_all (by rfl)) (by rfl) (by exact f_all) (by decide +kernel) (pa_cons (pe_lc (own := [(("size" : Str), 1)]) (g := gName 1) rfl sc_sizes_fit.nd (pi_seq (pv 0)) (blkOk_by (own := [(("size" : Str), 1)]) (N := N_sizes_fit) (sc := d_sizes_fit.scope) (by decide +kernel)) (fun _ _ _ _ _ => pg_name (i := 1) sc_sizes_fit.nd rfl (by first | exact Or.inl rfl | exact Or.inr rfl)) (fun _ _ _ _ _ => pts_nil) (fun _ _ _ _ _ => (pe_cal c_many_fits hgd hr (by decide) passF (pa_cons (pv 1) pa_nil)))) pa_nil))))))),
  (ss_ret (se_and (se_isi .tup se_var) (se_and (se_2 o_gt (se_n o_len (sa_cons se_var sa_nil)) se_int) (se_n o_all (sa_cons (se_l (sl_lc (si_seq se_var) (by decide) sg_name st_yes (se_callD (sa_cons se_var sa_nil)))) sa_nil)))))⟩
theorem cal_is_sizes (T : TX K mg) : CalG P w K mg base 4 d_is_sizes [("thing" : Str)] (spP K mg M_is_sizes) := by
  have c_sizes_fit : CalG P w K mg base 3 d_sizes_fit [("thing" : Str)] (spP K mg M_sizes_fit) := cal_sizes_fit T
  obtain ⟨fd, F0⟩ := T.says.def_ (d := d_is_sizes) (mem_at 11 rfl)
  have F : FunD K d_is_sizes.name d_is_sizes.qual d_is_sizes.params d_is_sizes.body d_is_sizes.scope [] [] (He.fAd K d_is_sizes.at_) fd := F0
  have B : Binds K fd [("thing" : Str)] [] := F.bindsN fun _ _ _ _ _ _ us hl => match us, hl with | [_], _ => rfl
  have glo : mg d_is_sizes.name = some (.ref (He.fAd K d_is_sizes.at_)) := T.glo "is_sizes" (mem_at 11 rfl)
  refine ⟨⟨fd, F, ?_, B⟩, glo⟩
  refine fnP_ok F sc_is_sizes (by decide) ?_
  intro cdv A outer s H E hgd hr
  exact ⟨_, (pss_one (ps_ret (pe_cal c_sizes_fit hgd hr (by decide) (passEN (L2N.takes_of rfl rfl rfl rfl)) (pa_cons (pv 0) pa_nil)))),
  (ss_ret (se_callD (sa_cons se_var sa_nil)))⟩
theorem cal_many_settings (T : TX K mg) : CalG P w K mg base 1 d_many_settings [("sizes" : Str)] (spP K mg M_many_settings) := by
  obtain ⟨fd, F0⟩ := T.says.def_ (d := d_many_settings) (mem_at 12 rfl)
  have F : FunD K d_many_settings.name d_many_settings.qual d_many_settings.params d_many_settings.body d_many_settings.scope [] [] (He.fAd K d_many_settings.at_) fd := F0
  have B : Binds K fd [("sizes" : Str)] [] := F.bindsN fun _ _ _ _ _ _ us hl => match us, hl with | [_], _ => rfl
  have glo : mg d_many_settings.name = some (.ref (He.fAd K d_many_settings.at_)) := T.glo "many_settings" (mem_at 12 rfl)
  refine ⟨⟨fd, F, ?_, B⟩, glo⟩
  refine fnP_ok F sc_many_settings (by decide) ?_
  intro cdv A outer s H E hgd hr
  exact ⟨_, (pss_cons (ps_set (i := 1) sc_many_settings.nd rfl (Or.inl rfl) pe_int)
  (pss_cons (ps_for (passes_of rfl) rfl (pi_seq (pv 0)) (pg_name (i := 2) sc_many_settings.nd rfl (Or.inl rfl)) (pss_one (ps_set (i := 1) sc_many_settings.nd rfl (Or.inl rfl) (pe_op op_mulX (pv 1) (pv 2)))))
  (pss_one (ps_ret (pv 1))))),
  (ss_seq (ss_asg se_int sg_name)
  (ss_seq (ss_for (si_seq se_var) sg_name (ss_asg (se_2 o_mul se_var se_var) sg_name))
  (ss_ret se_var)))⟩
theorem cal_is_bit (T : TX K mg) : CalG P w K mg base 3 d_is_bit [("thing" : Str)] (spP K mg M_is_bit) := by
  have c_number_fits : CalG P w K mg base 2 d_number_fits [("thing" : Str)] (spP K mg M_number_fits) := cal_number_fits T
  obtain ⟨fd, F0⟩ := T.says.def_ (d := d_is_bit) (mem_at 13 rfl)
  have F : FunD K d_is_bit.name d_is_bit.qual d_is_bit.params d_is_bit.body d_is_bit.scope [] [] (He.fAd K d_is_bit.at_) fd := F0
  have B : Binds K fd [("thing" : Str)] [] := F.bindsN fun _ _ _ _ _ _ us hl => match us, hl with | [_], _ => rfl
  have glo : mg d_is_bit.name = some (.ref (He.fAd K d_is_bit.at_)) := T.glo "is_bit" (mem_at 13 rfl)
  refine ⟨⟨fd, F, ?_, B⟩, glo⟩
  refine fnP_ok F sc_is_bit (by decide) ?_
  intro cdv A outer s H E hgd hr
  exact ⟨_, (pss_one (ps_ret (pe_and (pe_cal c_number_fits hgd hr (by decide) (passEN (L2N.takes_of rfl rfl rfl rfl)) (pa_cons (pv 0) pa_nil)) (pe_one (pe_cmpR (op_leG (room65 hr)) (pv 0) pe_int (nomark _)))))),
  (ss_ret (se_and (se_callD (sa_cons se_var sa_nil)) (se_2 o_le se_var se_int)))⟩
theorem cal_is_table (T : TX K mg) : CalG P w K mg base 5 d_is_table [("sizes" : Str), ("thing" : Str)] (spP K mg M_is_table) := by
  have c_a_want : CalG P w K mg base 3 d_a_want [("good" : Str), ("word" : Str)] (spP K mg M_a_want) := cal_a_want T
  have c_is_sizes : CalG P w K mg base 4 d_is_sizes [("thing" : Str)] (spP K mg M_is_sizes) := cal_is_sizes T
  have c_many_settings : CalG P w K mg base 1 d_many_settings [("sizes" : Str)] (spP K mg M_many_settings) := cal_many_settings T
  have c_is_bit : CalG P w K mg base 3 d_is_bit [("thing" : Str)] (spP K mg M_is_bit) := cal_is_bit T
  have f_isinstance : mg "isinstance" = none := T.free "isinstance" (mem_at 70 rfl)
  have f_len : mg "len" = none := T.free "len" (mem_at 71 rfl)
  have f_tuple : mg "tuple" = none := T.free "tuple" (mem_at 78 rfl)
  obtain ⟨fd, F0⟩ := T.says.def_ (d := d_is_table) (mem_at 14 rfl)
  have F : FunD K d_is_table.name d_is_table.qual d_is_table.params d_is_table.body d_is_table.scope [] [] (He.fAd K d_is_table.at_) fd := F0
  have B : Binds K fd [("sizes" : Str), ("thing" : Str)] [] := F.bindsN fun _ _ _ _ _ _ us hl => match us, hl with | [_, _], _ => rfl
  have glo : mg d_is_table.name = some (.ref (He.fAd K d_is_table.at_)) := T.glo "is_table" (mem_at 14 rfl)
  refine ⟨⟨fd, F, ?_, B⟩, glo⟩
  refine fnP_ok F sc_is_table (by decide) ?_
  intro cdv A outer s H E hgd hr
  exact ⟨_, (pss_cons (ps_expr (pe_cal c_a_want hgd hr (by decide) (passEN (L2N.takes_of rfl rfl rfl rfl)) (pa_cons (pe_cal c_is_sizes hgd hr (by decide) (passEN (L2N.takes_of rfl rfl rfl rfl)) (pa_cons (pv 0) pa_nil)) (pa_cons pe_str pa_nil))))
  (pss_cons (ps_if (PW.pt (pw_or (pt_not (pt_truth (pe_callB call_isiM (by rfl) (by exact f_isinstance) boot_isinstance (pa_cons (pv 1) (pa_cons (pe_bltn (v := .ty (Ty.nm .tup)) (by rfl) (by exact f_tuple) (by decide +kernel) rfl) pa_nil))) fun _ => rfl)) (pw_or1 (pt_cmpR (op_neG (room65 hr)) (pe_callB call_len_seq (by rfl) (by exact f_len) (by decide +kernel) (pa_cons (pv 1) pa_nil)) (pe_cal c_many_settings hgd hr (by decide) (passEN (L2N.takes_of rfl rfl rfl rfl)) (pa_cons (pv 0) pa_nil)) (nomark _))))) (pss_one (ps_ret pe_bl)) pss_nil)
  (pss_cons (ps_for (passes_of rfl) rfl (pi_seq (pv 1)) (pg_name (i := 2) sc_is_table.nd rfl (Or.inl rfl)) (pss_one (ps_if (pt_not (pt_truth (pe_cal c_is_bit hgd hr (by decide) (passEN (L2N.takes_of rfl rfl rfl rfl)) (pa_cons (pv 2) pa_nil)) fun _ => rfl)) (pss_one (ps_ret pe_bl)) pss_nil)))
  (pss_one (ps_ret pe_bl))))),
  (ss_seq (ss_drop (se_callD (sa_cons (se_callD (sa_cons se_var sa_nil)) (sa_cons se_str sa_nil))))
  (ss_seq (ss_if (st_or (st_not (st_tru (se_isi .tup se_var))) (st_test (se_2 o_ne (se_n o_len (sa_cons se_var sa_nil)) (se_callD (sa_cons se_var sa_nil))))) (ss_ret se_bl) ss_next)
  (ss_seq (ss_for (si_seq se_var) sg_name (ss_if (st_not (st_tru (se_callD (sa_cons se_var sa_nil)))) (ss_ret se_bl) ss_next))
  (ss_ret se_bl))))⟩
theorem cal_lot_fits (T : TX K mg) : CalG P w K mg base 4 d_lot_fits [("many" : Str), ("thing" : Str)] (spP K mg M_lot_fits) := by
  have c_house_fits : CalG P w K mg base 3 d_house_fits [("many" : Str), ("thing" : Str)] (spP K mg M_house_fits) := cal_house_fits T
  have f_isinstance : mg "isinstance" = none := T.free "isinstance" (mem_at 70 rfl)
  have f_tuple : mg "tuple" = none := T.free "tuple" (mem_at 78 rfl)
  obtain ⟨fd, F0⟩ := T.says.def_ (d := d_lot_fits) (mem_at 15 rfl)
  have F : FunD K d_lot_fits.name d_lot_fits.qual d_lot_fits.params d_lot_fits.body d_lot_fits.scope [] [] (He.fAd K d_lot_fits.at_) fd := F0
  have B : Binds K fd [("many" : Str), ("thing" : Str)] [] := F.bindsN fun _ _ _ _ _ _ us hl => match us, hl with | [_, _], _ => rfl
  have glo : mg d_lot_fits.name = some (.ref (He.fAd K d_lot_fits.at_)) := T.glo "lot_fits" (mem_at 15 rfl)
  refine ⟨⟨fd, F, ?_, B⟩, glo⟩
  refine fnP_ok F sc_lot_fits (by decide) ?_
  intro cdv A outer s H E hgd hr
  exact ⟨_, (pss_cons (ps_if (pt_not (pt_truth (pe_callB call_isiM (by rfl) (by exact f_isinstance) boot_isinstance (pa_cons (pv 1) (pa_cons (pe_bltn (v := .ty (Ty.nm .tup)) (by rfl) (by exact f_tuple) (by decide +kernel) rfl) pa_nil))) fun _ => rfl)) (pss_one (ps_ret pe_bl)) pss_nil)
  (pss_cons (ps_set (i := 2) sc_lot_fits.nd rfl (Or.inl rfl) (pe_un un_neg pe_int))
  (pss_cons (ps_for (passes_of rfl) rfl (pi_seq (pv 1)) (pg_name (i := 3) sc_lot_fits.nd rfl (Or.inl rfl)) (pss_cons (ps_if (PW.pt (pw_or (pt_not (pt_truth (pe_cal c_house_fits hgd hr (by decide) (passEN (L2N.takes_of rfl rfl rfl rfl)) (pa_cons (pv 0) (pa_cons (pv 3) pa_nil))) fun _ => rfl)) (pw_or1 (pt_cmpR (op_leG (room65 hr)) (pv 3) (pv 2) (nomark _))))) (pss_one (ps_ret pe_bl)) pss_nil)
  (pss_one (ps_set (i := 2) sc_lot_fits.nd rfl (Or.inl rfl) (pv 3)))))
  (pss_one (ps_ret pe_bl))))),
  (ss_seq (ss_if (st_not (st_tru (se_isi .tup se_var))) (ss_ret se_bl) ss_next)
  (ss_seq (ss_asg (se_1 o_neg se_int) sg_name)
  (ss_seq (ss_for (si_seq se_var) sg_name (ss_seq (ss_if (st_or (st_not (st_tru (se_callD (sa_cons se_var (sa_cons se_var sa_nil))))) (st_test (se_2 o_le se_var se_var))) (ss_ret se_bl) ss_next)
  (ss_asg se_var sg_name)))
  (ss_ret se_bl))))⟩
theorem cal_is_lots (T : TX K mg) : CalG P w K mg base 5 d_is_lots [("many" : Str), ("thing" : Str)] (spP K mg M_is_lots) := by
  have c_lot_fits : CalG P w K mg base 4 d_lot_fits [("many" : Str), ("thing" : Str)] (spP K mg M_lot_fits) := cal_lot_fits T
  have f_all : mg "all" = none := T.free "all" (mem_at 66 rfl)
  have f_isinstance : mg "isinstance" = none := T.free "isinstance" (mem_at 70 rfl)
  have f_tuple : mg "tuple" = none := T.free "tuple" (mem_at 78 rfl)
  obtain ⟨fd, F0⟩ := T.says.def_ (d := d_is_lots) (mem_at 16 rfl)
  have F : FunD K d_is_lots.name d_is_lots.qual d_is_lots.params d_is_lots.body d_is_lots.scope [] [] (He.fAd K d_is_lots.at_) fd := F0
  have B : Binds K fd [("many" : Str), ("thing" : Str)] [] := F.bindsN fun _ _ _ _ _ _ us hl => match us, hl with | [_, _], _ => rfl
  have glo : mg d_is_lots.name = some (.ref (He.fAd K d_is_lots.at_)) := T.glo "is_lots" (mem_at 16 rfl)
  refine ⟨⟨fd, F, ?_, B⟩, glo⟩
  refine fnP_ok F sc_is_lots (by decide) ?_
  intro cdv A outer s H E hgd hr
  exact ⟨_, (pss_one (ps_ret (pe_and (pe_callB call_isiM (by rfl) (by exact f_isinstance) boot_isinstance (pa_cons (pv 1) (pa_cons (pe_bltn (v := .ty (Ty.nm .tup)) (by rfl) (by exact f_tuple) (by decide +kernel) rfl) pa_nil))) (pe_one (pe_callB (cr_all (by rfl)) (by rfl) (by exact f_all) (by decide +kernel) (pa_cons (pe_lc (own := [(("lot" : Str), 2)]) (g := gName 2) rfl sc_is_lots.nd (pi_seq (pv 1)) (blkOk_by (own := [(("lot" : Str), 2)]) (N := N_is_lots) (sc := d_is_lots.scope) (by decide +kernel)) (fun _ _ _ _ _ => pg_name (i := 2) sc_is_lots.nd rfl (by first | exact Or.inl rfl | exact Or.inr rfl)) (fun _ _ _ _ _ => pts_nil) (fun _ _ _ _ _ => (pe_cal c_lot_fits hgd hr (by decide) passF (pa_cons (pv 0) (pa_cons (pv 2) pa_nil))))) pa_nil)))))),
  (ss_ret (se_and (se_isi .tup se_var) (se_n o_all (sa_cons (se_l (sl_lc (si_seq se_var) (by decide) sg_name st_yes (se_callD (sa_cons se_var (sa_cons se_var sa_nil))))) sa_nil))))⟩
theorem cal_lot_within (T : TX K mg) : CalG P w K mg base 1 d_lot_within [("one" : Str), ("other" : Str)] (spP K mg M_lot_within) := by
  have f_all : mg "all" = none := T.free "all" (mem_at 66 rfl)
  obtain ⟨fd, F0⟩ := T.says.def_ (d := d_lot_within) (mem_at 17 rfl)
  have F : FunD K d_lot_within.name d_lot_within.qual d_lot_within.params d_lot_within.body d_lot_within.scope [] [] (He.fAd K d_lot_within.at_) fd := F0
  have B : Binds K fd [("one" : Str), ("other" : Str)] [] := F.bindsN fun _ _ _ _ _ _ us hl => match us, hl with | [_, _], _ => rfl
  have glo : mg d_lot_within.name = some (.ref (He.fAd K d_lot_within.at_)) := T.glo "lot_within" (mem_at 17 rfl)
  refine ⟨⟨fd, F, ?_, B⟩, glo⟩
  refine fnP_ok F sc_lot_within (by decide) ?_
  intro cdv A outer s H E hgd hr
  exact ⟨_, (pss_one (ps_ret (pe_callB (cr_all (by rfl)) (by rfl) (by exact f_all) (by decide +kernel) (pa_cons (pe_lc (own := [(("house" : Str), 2)]) (g := gName 2) rfl sc_lot_within.nd (pi_seq (pv 0)) (blkOk_by (own := [(("house" : Str), 2)]) (N := N_lot_within) (sc := d_lot_within.scope) (by decide +kernel)) (fun _ _ _ _ _ => pg_name (i := 2) sc_lot_within.nd rfl (by first | exact Or.inl rfl | exact Or.inr rfl)) (fun _ _ _ _ _ => pts_nil) (fun _ _ _ _ _ => (pe_cmpR (op_inG (room65 hr)) (pv 2) (pv 1) (by with_unfolding_all rfl)))) pa_nil)))),
  (ss_ret (se_n o_all (sa_cons (se_l (sl_lc (si_seq se_var) (by decide) sg_name st_yes (se_2 o_in se_var se_var))) sa_nil)))⟩
theorem cal_fears_fit (T : TX K mg) : CalG P w K mg base 6 d_fears_fit [("many" : Str), ("thing" : Str)] (spP K mg M_fears_fit) := by
  have c_is_lots : CalG P w K mg base 5 d_is_lots [("many" : Str), ("thing" : Str)] (spP K mg M_is_lots) := cal_is_lots T
  have c_lot_within : CalG P w K mg base 1 d_lot_within [("one" : Str), ("other" : Str)] (spP K mg M_lot_within) := cal_lot_within T
  have f_any : mg "any" = none := T.free "any" (mem_at 67 rfl)
  have f_len : mg "len" = none := T.free "len" (mem_at 71 rfl)
  have f_range : mg "range" = none := T.free "range" (mem_at 75 rfl)
  obtain ⟨fd, F0⟩ := T.says.def_ (d := d_fears_fit) (mem_at 18 rfl)
  have F : FunD K d_fears_fit.name d_fears_fit.qual d_fears_fit.params d_fears_fit.body d_fears_fit.scope [] [] (He.fAd K d_fears_fit.at_) fd := F0
  have B : Binds K fd [("many" : Str), ("thing" : Str)] [] := F.bindsN fun _ _ _ _ _ _ us hl => match us, hl with | [_, _], _ => rfl
  have glo : mg d_fears_fit.name = some (.ref (He.fAd K d_fears_fit.at_)) := T.glo "fears_fit" (mem_at 18 rfl)
  refine ⟨⟨fd, F, ?_, B⟩, glo⟩
  refine fnP_ok F sc_fears_fit (by decide) ?_
  intro cdv A outer s H E hgd hr
  exact ⟨_, (pss_cons (ps_if (PW.pt (pw_or (pt_not (pt_truth (pe_cal c_is_lots hgd hr (by decide) (passEN (L2N.takes_of rfl rfl rfl rfl)) (pa_cons (pv 0) (pa_cons (pv 1) pa_nil))) fun _ => rfl)) (pw_or1 (pt_cmpR (op_eqG (room65 hr)) (pe_callB call_len_seq (by rfl) (by exact f_len) (by decide +kernel) (pa_cons (pv 1) pa_nil)) pe_int (nomark _))))) (pss_one (ps_ret pe_bl)) pss_nil)
  (pss_cons (ps_for (passes_of rfl) rfl (pi_range2 (by rfl) (by exact f_range) (pa_cons pe_int (pa_cons (pe_callB call_len_seq (by rfl) (by exact f_len) (by decide +kernel) (pa_cons (pv 1) pa_nil)) pa_nil))) (pg_name (i := 2) sc_fears_fit.nd rfl (Or.inl rfl)) (pss_one (ps_if (pt_cmpR (op_leG (room65 hr)) (pe_ix ix_seq (pv 1) (pv 2) fun _ _ => rfl) (pe_ix ix_seq (pv 1) (pe_op op_sub (pv 2) pe_int) fun _ _ => rfl) (nomark _)) (pss_one (ps_ret pe_bl)) pss_nil)))
  (pss_one (ps_ret (pe_not (pe_callB (cr_any (by rfl)) (by rfl) (by exact f_any) (by decide +kernel) (pa_cons (pe_lc2 (own := [(("one" : Str), 3), (("other" : Str), 4)]) (vs1 := [4]) (g := gName 3) (g1 := gName 4) rfl sc_fears_fit.nd (pi_seq (pv 1)) (blkOk_by (own := [(("one" : Str), 3), (("other" : Str), 4)]) (N := N_fears_fit) (sc := d_fears_fit.scope) (by decide +kernel)) (by decide) (fun _ _ _ _ _ => pg_name (i := 3) sc_fears_fit.nd rfl (by first | exact Or.inl rfl | exact Or.inr rfl)) (fun _ _ _ _ _ => pts_nil) (fun _ _ _ _ _ => (pi_seq (pv 1))) (fun _ _ _ _ _ => pg_name (i := 4) sc_fears_fit.nd rfl (by first | exact Or.inl rfl | exact Or.inr rfl)) (fun _ _ _ _ _ => pts_nil) (fun _ _ _ _ _ => (pe_and (pe_cmpR (op_neG (room65 hr)) (pv 3) (pv 4) (nomark _)) (pe_one (pe_cal c_lot_within hgd hr (by decide) passF (pa_cons (pv 3) (pa_cons (pv 4) pa_nil))))))) pa_nil))))))),
  (ss_seq (ss_if (st_or (st_not (st_tru (se_callD (sa_cons se_var (sa_cons se_var sa_nil))))) (st_test (se_2 o_eq (se_n o_len (sa_cons se_var sa_nil)) se_int))) (ss_ret se_bl) ss_next)
  (ss_seq (ss_for (si_rng2 (sa_cons se_int (sa_cons (se_n o_len (sa_cons se_var sa_nil)) sa_nil))) sg_name (ss_if (st_test (se_2 o_le (se_2 o_ix se_var se_var) (se_2 o_ix se_var (se_2 o_sub se_var se_int)))) (ss_ret se_bl) ss_next))
  (ss_ret (se_not (se_n o_any (sa_cons (se_l (sl_lc2 (si_seq se_var) (by decide) sg_name st_yes (si_seq se_var) (by decide) (by decide) sg_name st_yes (se_and (se_2 o_ne se_var se_var) (se_callD (sa_cons se_var (sa_cons se_var sa_nil)))))) sa_nil))))))⟩
theorem cal_ground_fits (T : TX K mg) : CalG P w K mg base 7 d_ground_fits [("thing" : Str)] (spP K mg M_ground_fits) := by
  have c_sizes_fit : CalG P w K mg base 3 d_sizes_fit [("thing" : Str)] (spP K mg M_sizes_fit) := cal_sizes_fit T
  have c_fears_fit : CalG P w K mg base 6 d_fears_fit [("many" : Str), ("thing" : Str)] (spP K mg M_fears_fit) := cal_fears_fit T
  have f_isinstance : mg "isinstance" = none := T.free "isinstance" (mem_at 70 rfl)
  have f_len : mg "len" = none := T.free "len" (mem_at 71 rfl)
  have f_tuple : mg "tuple" = none := T.free "tuple" (mem_at 78 rfl)
  obtain ⟨fd, F0⟩ := T.says.def_ (d := d_ground_fits) (mem_at 19 rfl)
  have F : FunD K d_ground_fits.name d_ground_fits.qual d_ground_fits.params d_ground_fits.body d_ground_fits.scope [] [] (He.fAd K d_ground_fits.at_) fd := F0
  have B : Binds K fd [("thing" : Str)] [] := F.bindsN fun _ _ _ _ _ _ us hl => match us, hl with | [_], _ => rfl
  have glo : mg d_ground_fits.name = some (.ref (He.fAd K d_ground_fits.at_)) := T.glo "ground_fits" (mem_at 19 rfl)
  refine ⟨⟨fd, F, ?_, B⟩, glo⟩
  refine fnP_ok F sc_ground_fits (by decide) ?_
  intro cdv A outer s H E hgd hr
  exact ⟨_, (pss_cons (ps_if (PW.pt (pw_or (pt_not (pt_truth (pe_callB call_isiM (by rfl) (by exact f_isinstance) boot_isinstance (pa_cons (pv 0) (pa_cons (pe_bltn (v := .ty (Ty.nm .tup)) (by rfl) (by exact f_tuple) (by decide +kernel) rfl) pa_nil))) fun _ => rfl)) (pw_or1 (pt_cmpR (op_neG (room65 hr)) (pe_callB call_len_seq (by rfl) (by exact f_len) (by decide +kernel) (pa_cons (pv 0) pa_nil)) pe_int (nomark _))))) (pss_one (ps_ret pe_bl)) pss_nil)
  (pss_one (ps_ret (pe_and (pe_cal c_sizes_fit hgd hr (by decide) (passEN (L2N.takes_of rfl rfl rfl rfl)) (pa_cons (pe_ix ix_seq (pv 0) pe_int fun _ _ => rfl) pa_nil)) (pe_one (pe_cal c_fears_fit hgd hr (by decide) (passEN (L2N.takes_of rfl rfl rfl rfl)) (pa_cons (pe_callB call_len_seq (by rfl) (by exact f_len) (by decide +kernel) (pa_cons (pe_ix ix_seq (pv 0) pe_int fun _ _ => rfl) pa_nil)) (pa_cons (pe_ix ix_seq (pv 0) pe_int fun _ _ => rfl) pa_nil)))))))),
  (ss_seq (ss_if (st_or (st_not (st_tru (se_isi .tup se_var))) (st_test (se_2 o_ne (se_n o_len (sa_cons se_var sa_nil)) se_int))) (ss_ret se_bl) ss_next)
  (ss_ret (se_and (se_callD (sa_cons (se_2 o_ix se_var se_int) sa_nil)) (se_callD (sa_cons (se_n o_len (sa_cons (se_2 o_ix se_var se_int) sa_nil)) (sa_cons (se_2 o_ix se_var se_int) sa_nil))))))⟩
theorem cal_is_ground (T : TX K mg) : CalG P w K mg base 8 d_is_ground [("thing" : Str)] (spP K mg M_is_ground) := by
  have c_ground_fits : CalG P w K mg base 7 d_ground_fits [("thing" : Str)] (spP K mg M_ground_fits) := cal_ground_fits T
  obtain ⟨fd, F0⟩ := T.says.def_ (d := d_is_ground) (mem_at 20 rfl)
  have F : FunD K d_is_ground.name d_is_ground.qual d_is_ground.params d_is_ground.body d_is_ground.scope [] [] (He.fAd K d_is_ground.at_) fd := F0
  have B : Binds K fd [("thing" : Str)] [] := F.bindsN fun _ _ _ _ _ _ us hl => match us, hl with | [_], _ => rfl
  have glo : mg d_is_ground.name = some (.ref (He.fAd K d_is_ground.at_)) := T.glo "is_ground" (mem_at 20 rfl)
  refine ⟨⟨fd, F, ?_, B⟩, glo⟩
  refine fnP_ok F sc_is_ground (by decide) ?_
  intro cdv A outer s H E hgd hr
  exact ⟨_, (pss_one (ps_ret (pe_cal c_ground_fits hgd hr (by decide) (passEN (L2N.takes_of rfl rfl rfl rfl)) (pa_cons (pv 0) pa_nil)))),
  (ss_ret (se_callD (sa_cons se_var sa_nil)))⟩
theorem cal__is_beginning (T : TX K mg) : CalG P w K mg base 9 d__is_beginning [("thing" : Str)] (spP K mg M__is_beginning) := by
  have c_is_net : CalG P w K mg base 6 d_is_net [("many" : Str), ("thing" : Str)] (spP K mg M_is_net) := cal_is_net T
  have c_is_table : CalG P w K mg base 5 d_is_table [("sizes" : Str), ("thing" : Str)] (spP K mg M_is_table) := cal_is_table T
  have c_is_ground : CalG P w K mg base 8 d_is_ground [("thing" : Str)] (spP K mg M_is_ground) := cal_is_ground T
  have f_isinstance : mg "isinstance" = none := T.free "isinstance" (mem_at 70 rfl)
  have f_len : mg "len" = none := T.free "len" (mem_at 71 rfl)
  have f_str : mg "str" = none := T.free "str" (mem_at 77 rfl)
  have f_tuple : mg "tuple" = none := T.free "tuple" (mem_at 78 rfl)
  obtain ⟨fd, F0⟩ := T.says.def_ (d := d__is_beginning) (mem_at 21 rfl)
  have F : FunD K d__is_beginning.name d__is_beginning.qual d__is_beginning.params d__is_beginning.body d__is_beginning.scope [] [] (He.fAd K d__is_beginning.at_) fd := F0
  have B : Binds K fd [("thing" : Str)] [] := F.bindsN fun _ _ _ _ _ _ us hl => match us, hl with | [_], _ => rfl
  have glo : mg d__is_beginning.name = some (.ref (He.fAd K d__is_beginning.at_)) := T.glo "_is_beginning" (mem_at 21 rfl)
  refine ⟨⟨fd, F, ?_, B⟩, glo⟩
  refine fnP_ok F sc__is_beginning (by decide) ?_
  intro cdv A outer s H E hgd hr
  exact ⟨_, (pss_cons (ps_if (PW.pt (pw_or (pt_not (pt_truth (pe_callB call_isiM (by rfl) (by exact f_isinstance) boot_isinstance (pa_cons (pv 0) (pa_cons (pe_bltn (v := .ty (Ty.nm .tup)) (by rfl) (by exact f_tuple) (by decide +kernel) rfl) pa_nil))) fun _ => rfl)) (pw_or1 (pt_cmpR (op_neG (room65 hr)) (pe_callB call_len_seq (by rfl) (by exact f_len) (by decide +kernel) (pa_cons (pv 0) pa_nil)) pe_int (nomark _))))) (pss_one (ps_ret pe_bl)) pss_nil)
  (pss_cons (ps_asg (pv 0) (pg_tup rfl (pgs_cons (pg_name (i := 2) sc__is_beginning.nd rfl (Or.inl rfl)) (pgs_cons (pg_name (i := 3) sc__is_beginning.nd rfl (Or.inl rfl)) (pgs_cons (pg_name (i := 4) sc__is_beginning.nd rfl (Or.inl rfl)) (pgs_cons (pg_name (i := 5) sc__is_beginning.nd rfl (Or.inl rfl)) pgs_nil))))))
  (pss_cons (ps_if (PW.pt (pw_or (pt_not (pt_truth (pe_callB call_isiM (by rfl) (by exact f_isinstance) boot_isinstance (pa_cons (pv 2) (pa_cons (pe_bltn (v := .ty (Ty.nm .str)) (by rfl) (by exact f_str) (by decide +kernel) rfl) pa_nil))) fun _ => rfl)) (pw_or (pt_cmpR (op_neG (room65 hr)) (pv 2) pe_str (nomark _)) (pw_or1 (pt_not (pt_truth (pe_cal c_is_ground hgd hr (by decide) (passEN (L2N.takes_of rfl rfl rfl rfl)) (pa_cons (pv 3) pa_nil)) fun _ => rfl)))))) (pss_one (ps_ret pe_bl)) pss_nil)
  (pss_cons (ps_set (i := 1) sc__is_beginning.nd rfl (Or.inl rfl) (pe_ix ix_seq (pv 3) pe_int fun _ _ => rfl))
  (pss_one (ps_ret (pe_and (pe_cal c_is_net hgd hr (by decide) (passEN (L2N.takes_of rfl rfl rfl rfl)) (pa_cons (pe_callB call_len_seq (by rfl) (by exact f_len) (by decide +kernel) (pa_cons (pv 1) pa_nil)) (pa_cons (pv 4) pa_nil))) (pe_one (pe_cal c_is_table hgd hr (by decide) (passEN (L2N.takes_of rfl rfl rfl rfl)) (pa_cons (pv 1) (pa_cons (pv 5) pa_nil))))))))))),
  (ss_seq (ss_if (st_or (st_not (st_tru (se_isi .tup se_var))) (st_test (se_2 o_ne (se_n o_len (sa_cons se_var sa_nil)) se_int))) (ss_ret se_bl) ss_next)
  (ss_seq (ss_asg se_var (sg_tup rfl (sgs_cons (sgs_cons (sgs_cons (sgs_cons sgs_nil))))))
  (ss_seq (ss_if (st_or (st_not (st_tru (se_isi .str se_var))) (st_or (st_test (se_2 o_ne se_var se_str)) (st_not (st_tru (se_callD (sa_cons se_var sa_nil)))))) (ss_ret se_bl) ss_next)
  (ss_seq (ss_asg (se_2 o_ix se_var se_int) sg_name)
  (ss_ret (se_and (se_callD (sa_cons (se_n o_len (sa_cons se_var sa_nil)) (sa_cons se_var sa_nil))) (se_callD (sa_cons se_var (sa_cons se_var sa_nil)))))))))⟩
theorem cal_is_number (T : TX K mg) : CalG P w K mg base 3 d_is_number [("thing" : Str)] (spP K mg M_is_number) := by
  have c_number_fits : CalG P w K mg base 2 d_number_fits [("thing" : Str)] (spP K mg M_number_fits) := cal_number_fits T
  obtain ⟨fd, F0⟩ := T.says.def_ (d := d_is_number) (mem_at 22 rfl)
  have F : FunD K d_is_number.name d_is_number.qual d_is_number.params d_is_number.body d_is_number.scope [] [] (He.fAd K d_is_number.at_) fd := F0
  have B : Binds K fd [("thing" : Str)] [] := F.bindsN fun _ _ _ _ _ _ us hl => match us, hl with | [_], _ => rfl
  have glo : mg d_is_number.name = some (.ref (He.fAd K d_is_number.at_)) := T.glo "is_number" (mem_at 22 rfl)
  refine ⟨⟨fd, F, ?_, B⟩, glo⟩
  refine fnP_ok F sc_is_number (by decide) ?_
  intro cdv A outer s H E hgd hr
  exact ⟨_, (pss_one (ps_ret (pe_cal c_number_fits hgd hr (by decide) (passEN (L2N.takes_of rfl rfl rfl rfl)) (pa_cons (pv 0) pa_nil)))),
  (ss_ret (se_callD (sa_cons se_var sa_nil)))⟩
theorem cal__are_numbers (T : TX K mg) : CalG P w K mg base 4 d__are_numbers [("thing" : Str)] (spP K mg M__are_numbers) := by
  have c_is_number : CalG P w K mg base 3 d_is_number [("thing" : Str)] (spP K mg M_is_number) := cal_is_number T
  have f_all : mg "all" = none := T.free "all" (mem_at 66 rfl)
  have f_isinstance : mg "isinstance" = none := T.free "isinstance" (mem_at 70 rfl)
  have f_tuple : mg "tuple" = none := T.free "tuple" (mem_at 78 rfl)
  obtain ⟨fd, F0⟩ := T.says.def_ (d := d__are_numbers) (mem_at 23 rfl)
  have F : FunD K d__are_numbers.name d__are_numbers.qual d__are_numbers.params d__are_numbers.body d__are_numbers.scope [] [] (He.fAd K d__are_numbers.at_) fd := F0
  have B : Binds K fd [("thing" : Str)] [] := F.bindsN fun _ _ _ _ _ _ us hl => match us, hl with | [_], _ => rfl
  have glo : mg d__are_numbers.name = some (.ref (He.fAd K d__are_numbers.at_)) := T.glo "_are_numbers" (mem_at 23 rfl)
  refine ⟨⟨fd, F, ?_, B⟩, glo⟩
  refine fnP_ok F sc__are_numbers (by decide) ?_
  intro cdv A outer s H E hgd hr
  exact ⟨_, (pss_one (ps_ret (pe_and (pe_callB call_isiM (by rfl) (by exact f_isinstance) boot_isinstance (pa_cons (pv 0) (pa_cons (pe_bltn (v := .ty (Ty.nm .tup)) (by rfl) (by exact f_tuple) (by decide +kernel) rfl) pa_nil))) (pe_one (pe_callB (cr_all (by rfl)) (by rfl) (by exact f_all) (by decide +kernel) (pa_cons (pe_lc (own := [(("one" : Str), 1)]) (g := gName 1) rfl sc__are_numbers.nd (pi_seq (pv 0)) (blkOk_by (own := [(("one" : Str), 1)]) (N := N__are_numbers) (sc := d__are_numbers.scope) (by decide +kernel)) (fun _ _ _ _ _ => pg_name (i := 1) sc__are_numbers.nd rfl (by first | exact Or.inl rfl | exact Or.inr rfl)) (fun _ _ _ _ _ => pts_nil) (fun _ _ _ _ _ => (pe_cal c_is_number hgd hr (by decide) passF (pa_cons (pv 1) pa_nil)))) pa_nil)))))),
  (ss_ret (se_and (se_isi .tup se_var) (se_n o_all (sa_cons (se_l (sl_lc (si_seq se_var) (by decide) sg_name st_yes (se_callD (sa_cons se_var sa_nil)))) sa_nil))))⟩
theorem cal__is_lot_form (T : TX K mg) : CalG P w K mg base 5 d__is_lot_form [("thing" : Str)] (spP K mg M__is_lot_form) := by
  have c__are_numbers : CalG P w K mg base 4 d__are_numbers [("thing" : Str)] (spP K mg M__are_numbers) := cal__are_numbers T
  have f_all : mg "all" = none := T.free "all" (mem_at 66 rfl)
  have f_len : mg "len" = none := T.free "len" (mem_at 71 rfl)
  have f_range : mg "range" = none := T.free "range" (mem_at 75 rfl)
  obtain ⟨fd, F0⟩ := T.says.def_ (d := d__is_lot_form) (mem_at 24 rfl)
  have F : FunD K d__is_lot_form.name d__is_lot_form.qual d__is_lot_form.params d__is_lot_form.body d__is_lot_form.scope [] [] (He.fAd K d__is_lot_form.at_) fd := F0
  have B : Binds K fd [("thing" : Str)] [] := F.bindsN fun _ _ _ _ _ _ us hl => match us, hl with | [_], _ => rfl
  have glo : mg d__is_lot_form.name = some (.ref (He.fAd K d__is_lot_form.at_)) := T.glo "_is_lot_form" (mem_at 24 rfl)
  refine ⟨⟨fd, F, ?_, B⟩, glo⟩
  refine fnP_ok F sc__is_lot_form (by decide) ?_
  intro cdv A outer s H E hgd hr
  exact ⟨_, (pss_one (ps_ret (pe_and (pe_cal c__are_numbers hgd hr (by decide) (passEN (L2N.takes_of rfl rfl rfl rfl)) (pa_cons (pv 0) pa_nil)) (pe_one (pe_callB (cr_all (by rfl)) (by rfl) (by exact f_all) (by decide +kernel) (pa_cons (pe_lc (own := [(("k" : Str), 1)]) (g := gName 1) rfl sc__is_lot_form.nd (pi_range1 (by rfl) (by exact f_range) (pa_cons (pe_op op_sub (pe_callB call_len_seq (by rfl) (by exact f_len) (by decide +kernel) (pa_cons (pv 0) pa_nil)) pe_int) pa_nil)) (blkOk_by (own := [(("k" : Str), 1)]) (N := N__is_lot_form) (sc := d__is_lot_form.scope) (by decide +kernel)) (fun _ _ _ _ _ => pg_name (i := 1) sc__is_lot_form.nd rfl (by first | exact Or.inl rfl | exact Or.inr rfl)) (fun _ _ _ _ _ => pts_nil) (fun _ _ _ _ _ => (pe_cmpR (op_ltG (room65 hr)) (pe_ix ix_seq (pv 0) (pv 1) fun _ _ => rfl) (pe_ix ix_seq (pv 0) (pe_op op_add3 (pv 1) pe_int) fun _ _ => rfl) (nomark _)))) pa_nil)))))),
  (ss_ret (se_and (se_callD (sa_cons se_var sa_nil)) (se_n o_all (sa_cons (se_l (sl_lc (si_rng1 (sa_cons (se_2 o_sub (se_n o_len (sa_cons se_var sa_nil)) se_int) sa_nil)) (by decide) sg_name st_yes (se_2 o_lt (se_2 o_ix se_var se_var) (se_2 o_ix se_var (se_2 o_add se_var se_int))))) sa_nil))))⟩
theorem cal_is_event (T : TX K mg) : CalG P w K mg base 6 d_is_event [("thing" : Str)] (spP K mg M_is_event) := by
  have c__are_numbers : CalG P w K mg base 4 d__are_numbers [("thing" : Str)] (spP K mg M__are_numbers) := cal__are_numbers T
  have c__is_lot_form : CalG P w K mg base 5 d__is_lot_form [("thing" : Str)] (spP K mg M__is_lot_form) := cal__is_lot_form T
  have c_is_bit : CalG P w K mg base 3 d_is_bit [("thing" : Str)] (spP K mg M_is_bit) := cal_is_bit T
  have f_isinstance : mg "isinstance" = none := T.free "isinstance" (mem_at 70 rfl)
  have f_len : mg "len" = none := T.free "len" (mem_at 71 rfl)
  have f_str : mg "str" = none := T.free "str" (mem_at 77 rfl)
  have f_tuple : mg "tuple" = none := T.free "tuple" (mem_at 78 rfl)
  obtain ⟨fd, F0⟩ := T.says.def_ (d := d_is_event) (mem_at 25 rfl)
  have F : FunD K d_is_event.name d_is_event.qual d_is_event.params d_is_event.body d_is_event.scope [] [] (He.fAd K d_is_event.at_) fd := F0
  have B : Binds K fd [("thing" : Str)] [] := F.bindsN fun _ _ _ _ _ _ us hl => match us, hl with | [_], _ => rfl
  have glo : mg d_is_event.name = some (.ref (He.fAd K d_is_event.at_)) := T.glo "is_event" (mem_at 25 rfl)
  refine ⟨⟨fd, F, ?_, B⟩, glo⟩
  refine fnP_ok F sc_is_event (by decide) ?_
  intro cdv A outer s H E hgd hr
  exact ⟨_, (pss_cons (ps_if (PW.pt (pw_or (pt_not (pt_truth (pe_callB call_isiM (by rfl) (by exact f_isinstance) boot_isinstance (pa_cons (pv 0) (pa_cons (pe_bltn (v := .ty (Ty.nm .tup)) (by rfl) (by exact f_tuple) (by decide +kernel) rfl) pa_nil))) fun _ => rfl)) (pw_or (pt_cmpR (op_eqG (room65 hr)) (pe_callB call_len_seq (by rfl) (by exact f_len) (by decide +kernel) (pa_cons (pv 0) pa_nil)) pe_int (nomark _)) (pw_or1 (pt_not (pt_truth (pe_callB call_isiM (by rfl) (by exact f_isinstance) boot_isinstance (pa_cons (pe_ix ix_seq (pv 0) pe_int fun _ _ => rfl) (pa_cons (pe_bltn (v := .ty (Ty.nm .str)) (by rfl) (by exact f_str) (by decide +kernel) rfl) pa_nil))) fun _ => rfl)))))) (pss_one (ps_ret pe_bl)) pss_nil)
  (pss_cons (ps_set (i := 1) sc_is_event.nd rfl (Or.inl rfl) (pe_ix ix_seq (pv 0) pe_int fun _ _ => rfl))
  (pss_cons (ps_if (PW.pt (pw_or (pt_cmpR (op_notInTb (tb_COUNTS (K := K) (mg := mg) (w := w)).1) (pv 1) (pe_glob (v := .ref (He.ga K "COUNTS")) (by rfl) (tb_COUNTS (K := K) (mg := mg) (w := w)).2 rfl) (by with_unfolding_all rfl)) (pw_or1 (pt_cmpR (op_neG (room65 hr)) (pe_callB call_len_seq (by rfl) (by exact f_len) (by decide +kernel) (pa_cons (pv 0) pa_nil)) (pe_ix ix_kdict (pe_glob (v := .ref (He.ga K "COUNTS")) (by rfl) (tb_COUNTS (K := K) (mg := mg) (w := w)).2 rfl) (pv 1) fun _ _ => rfl) (nomark _))))) (pss_one (ps_ret pe_bl)) pss_nil)
  (pss_cons (ps_if (PW.pt (pw_or (pt_cmpR (op_eqG (room65 hr)) (pv 1) pe_str (nomark _)) (pw_or1 (pt_cmpR (op_eqG (room65 hr)) (pv 1) pe_str (nomark _))))) (pss_one (ps_ret (pe_cal c__is_lot_form hgd hr (by decide) (passEN (L2N.takes_of rfl rfl rfl rfl)) (pa_cons (pe_ix ix_seq (pv 0) pe_int fun _ _ => rfl) pa_nil)))) pss_nil)
  (pss_cons (ps_if (pt_cmpR (op_eqG (room65 hr)) (pv 1) pe_str (nomark _)) (pss_one (ps_ret (pe_and (pe_cal c__are_numbers hgd hr (by decide) (passEN (L2N.takes_of rfl rfl rfl rfl)) (pa_cons (pe_ix ix_seq (pv 0) pe_int fun _ _ => rfl) pa_nil)) (pe_and (pe_cmpR (op_gtG (room65 hr)) (pe_callB call_len_seq (by rfl) (by exact f_len) (by decide +kernel) (pa_cons (pe_ix ix_seq (pv 0) pe_int fun _ _ => rfl) pa_nil)) pe_int (nomark _)) (pe_one (pe_cal c_is_bit hgd hr (by decide) (passEN (L2N.takes_of rfl rfl rfl rfl)) (pa_cons (pe_ix ix_seq (pv 0) pe_int fun _ _ => rfl) pa_nil))))))) pss_nil)
  (pss_one (ps_ret (pe_cal c__are_numbers hgd hr (by decide) (passEN (L2N.takes_of rfl rfl rfl rfl)) (pa_cons (pe_slice slr_2 (pv 0) (po_some pe_int) po_none) pa_nil))))))))),
  (ss_seq (ss_if (st_or (st_not (st_tru (se_isi .tup se_var))) (st_or (st_test (se_2 o_eq (se_n o_len (sa_cons se_var sa_nil)) se_int)) (st_not (st_tru (se_isi .str (se_2 o_ix se_var se_int)))))) (ss_ret se_bl) ss_next)
  (ss_seq (ss_asg (se_2 o_ix se_var se_int) sg_name)
  (ss_seq (ss_if (st_or (st_test (se_inTb (tb_COUNTS (K := K) (mg := mg) (w := w)).1 se_var)) (st_test (se_2 o_ne (se_n o_len (sa_cons se_var sa_nil)) (se_ixTb (tb_COUNTS (K := K) (mg := mg) (w := w)).1 se_var)))) (ss_ret se_bl) ss_next)
  (ss_seq (ss_if (st_or (st_test (se_2 o_eq se_var se_str)) (st_test (se_2 o_eq se_var se_str))) (ss_ret (se_callD (sa_cons (se_2 o_ix se_var se_int) sa_nil))) ss_next)
  (ss_seq (ss_if (st_test (se_2 o_eq se_var se_str)) (ss_ret (se_and (se_callD (sa_cons (se_2 o_ix se_var se_int) sa_nil)) (se_and (se_2 o_gt (se_n o_len (sa_cons (se_2 o_ix se_var se_int) sa_nil)) se_int) (se_callD (sa_cons (se_2 o_ix se_var se_int) sa_nil))))) ss_next)
  (ss_ret (se_callD (sa_cons (se_sl se_var (so_some se_int) so_none) sa_nil))))))))⟩
theorem cal_is_log (T : TX K mg) : CalG P w K mg base 10 d_is_log [("thing" : Str)] (spP K mg M_is_log) := by
  have c__is_beginning : CalG P w K mg base 9 d__is_beginning [("thing" : Str)] (spP K mg M__is_beginning) := cal__is_beginning T
  have c_is_event : CalG P w K mg base 6 d_is_event [("thing" : Str)] (spP K mg M_is_event) := cal_is_event T
  have f_all : mg "all" = none := T.free "all" (mem_at 66 rfl)
  have f_isinstance : mg "isinstance" = none := T.free "isinstance" (mem_at 70 rfl)
  have f_len : mg "len" = none := T.free "len" (mem_at 71 rfl)
  have f_tuple : mg "tuple" = none := T.free "tuple" (mem_at 78 rfl)
  obtain ⟨fd, F0⟩ := T.says.def_ (d := d_is_log) (mem_at 26 rfl)
  have F : FunD K d_is_log.name d_is_log.qual d_is_log.params d_is_log.body d_is_log.scope [] [] (He.fAd K d_is_log.at_) fd := F0
  have B : Binds K fd [("thing" : Str)] [] := F.bindsN fun _ _ _ _ _ _ us hl => match us, hl with | [_], _ => rfl
  have glo : mg d_is_log.name = some (.ref (He.fAd K d_is_log.at_)) := T.glo "is_log" (mem_at 26 rfl)
  refine ⟨⟨fd, F, ?_, B⟩, glo⟩
  refine fnP_ok F sc_is_log (by decide) ?_
  intro cdv A outer s H E hgd hr
  exact ⟨_, (pss_cons (ps_if (PW.pt (pw_or (pt_not (pt_truth (pe_callB call_isiM (by rfl) (by exact f_isinstance) boot_isinstance (pa_cons (pv 0) (pa_cons (pe_bltn (v := .ty (Ty.nm .tup)) (by rfl) (by exact f_tuple) (by decide +kernel) rfl) pa_nil))) fun _ => rfl)) (pw_or (pt_cmpR (op_eqG (room65 hr)) (pe_callB call_len_seq (by rfl) (by exact f_len) (by decide +kernel) (pa_cons (pv 0) pa_nil)) pe_int (nomark _)) (pw_or1 (pt_not (pt_truth (pe_cal c__is_beginning hgd hr (by decide) (passEN (L2N.takes_of rfl rfl rfl rfl)) (pa_cons (pe_ix ix_seq (pv 0) pe_int fun _ _ => rfl) pa_nil)) fun _ => rfl)))))) (pss_one (ps_ret pe_bl)) pss_nil)
  (pss_one (ps_ret (pe_callB (cr_all (by rfl)) (by rfl) (by exact f_all) (by decide +kernel) (pa_cons (pe_lc (own := [(("event" : Str), 1)]) (g := gName 1) rfl sc_is_log.nd (pi_seq (pe_slice slr_2 (pv 0) (po_some pe_int) po_none)) (blkOk_by (own := [(("event" : Str), 1)]) (N := N_is_log) (sc := d_is_log.scope) (by decide +kernel)) (fun _ _ _ _ _ => pg_name (i := 1) sc_is_log.nd rfl (by first | exact Or.inl rfl | exact Or.inr rfl)) (fun _ _ _ _ _ => pts_nil) (fun _ _ _ _ _ => (pe_cal c_is_event hgd hr (by decide) passF (pa_cons (pv 1) pa_nil)))) pa_nil))))),
  (ss_seq (ss_if (st_or (st_not (st_tru (se_isi .tup se_var))) (st_or (st_test (se_2 o_eq (se_n o_len (sa_cons se_var sa_nil)) se_int)) (st_not (st_tru (se_callD (sa_cons (se_2 o_ix se_var se_int) sa_nil)))))) (ss_ret se_bl) ss_next)
  (ss_ret (se_n o_all (sa_cons (se_l (sl_lc (si_seq (se_sl se_var (so_some se_int) so_none)) (by decide) sg_name st_yes (se_callD (sa_cons se_var sa_nil)))) sa_nil))))⟩
theorem cal__law_is_log (T : TX K mg) : CalG P w K mg base 11 d__law_is_log [("_law_thing" : Str), ("_law_due" : Str)] (spP K mg M__law_is_log) := by
  have c_is_log : CalG P w K mg base 10 d_is_log [("thing" : Str)] (spP K mg M_is_log) := cal_is_log T
  have f_bool : mg "bool" = none := T.free "bool" (mem_at 68 rfl)
  have f_isinstance : mg "isinstance" = none := T.free "isinstance" (mem_at 70 rfl)
  obtain ⟨fd, F0⟩ := T.says.def_ (d := d__law_is_log) (mem_at 27 rfl)
  have F : FunD K d__law_is_log.name d__law_is_log.qual d__law_is_log.params d__law_is_log.body d__law_is_log.scope [] [] (He.fAd K d__law_is_log.at_) fd := F0
  have B : Binds K fd [("_law_thing" : Str), ("_law_due" : Str)] [] := F.bindsN fun _ _ _ _ _ _ us hl => match us, hl with | [_, _], _ => rfl
  have glo : mg d__law_is_log.name = some (.ref (He.fAd K d__law_is_log.at_)) := T.glo "_law_is_log" (mem_at 27 rfl)
  refine ⟨⟨fd, F, ?_, B⟩, glo⟩
  refine fnP_ok F sc__law_is_log (by decide) ?_
  intro cdv A outer s H E hgd hr
  exact ⟨_, (pss_cons (ps_set (i := 2) sc__law_is_log.nd rfl (Or.inl rfl) (pe_cal c_is_log hgd hr (by decide) (passEN (L2N.takes_of rfl rfl rfl rfl)) (pa_cons (pv 0) pa_nil)))
  (pss_cons (ps_if (PW.pt (pw_or (pt_not (pt_truth (pe_callB call_isiM (by rfl) (by exact f_isinstance) boot_isinstance (pa_cons (pv 2) (pa_cons (pe_bltn (v := .ty (Ty.nm .bool)) (by rfl) (by exact f_bool) (by decide +kernel) rfl) pa_nil))) fun _ => rfl)) (pw_or1 (pt_cmpR (op_neG (room65 hr)) (pv 2) (pv 1) (nomark _))))) (pss_one (ps_ret pe_bl)) pss_nil)
  (pss_cons (ps_if (pt_not (pt_truth (pv 1) fun _ => rfl)) (pss_one (ps_ret pe_bl)) pss_nil)
  (pss_cons (ps_set (i := 3) sc__law_is_log.nd rfl (Or.inl rfl) (pe_cal0 (ks := [("thing" : Str)]) (perm := [0]) c_is_log hgd hr (by decide) (passEN (L2N.takes_of rfl rfl rfl rfl)) (fun _ _ _ _ _ _ us ws h1 h2 => match us, ws, h1, h2 with | [], [_], _, _ => rfl) (pk_cons (pv 0) pk_nil)))
  (pss_one (ps_ret (pe_and (pe_callB call_isiM (by rfl) (by exact f_isinstance) boot_isinstance (pa_cons (pv 3) (pa_cons (pe_bltn (v := .ty (Ty.nm .bool)) (by rfl) (by exact f_bool) (by decide +kernel) rfl) pa_nil))) (pe_one (pv 3))))))))),
  (ss_seq (ss_asg (se_callD (sa_cons se_var sa_nil)) sg_name)
  (ss_seq (ss_if (st_or (st_not (st_tru (se_isi .bool se_var))) (st_test (se_2 o_ne se_var se_var))) (ss_ret se_bl) ss_next)
  (ss_seq (ss_if (st_not (st_tru se_var)) (ss_ret se_bl) ss_next)
  (ss_seq (ss_asg (se_callK sa_nil (sa_cons se_var sa_nil)) sg_name)
  (ss_ret (se_and (se_isi .bool se_var) se_var))))))⟩
theorem cal__law_told (T : TX K mg) : CalG P w K mg base 7 d__law_told [("_law_thing" : Str), ("_law_due" : Str)] (spP K mg M__law_told) := by
  have c_is_event : CalG P w K mg base 6 d_is_event [("thing" : Str)] (spP K mg M_is_event) := cal_is_event T
  have f_bool : mg "bool" = none := T.free "bool" (mem_at 68 rfl)
  have f_isinstance : mg "isinstance" = none := T.free "isinstance" (mem_at 70 rfl)
  obtain ⟨fd, F0⟩ := T.says.def_ (d := d__law_told) (mem_at 28 rfl)
  have F : FunD K d__law_told.name d__law_told.qual d__law_told.params d__law_told.body d__law_told.scope [] [] (He.fAd K d__law_told.at_) fd := F0
  have B : Binds K fd [("_law_thing" : Str), ("_law_due" : Str)] [] := F.bindsN fun _ _ _ _ _ _ us hl => match us, hl with | [_, _], _ => rfl
  have glo : mg d__law_told.name = some (.ref (He.fAd K d__law_told.at_)) := T.glo "_law_told" (mem_at 28 rfl)
  refine ⟨⟨fd, F, ?_, B⟩, glo⟩
  refine fnP_ok F sc__law_told (by decide) ?_
  intro cdv A outer s H E hgd hr
  exact ⟨_, (pss_cons (ps_set (i := 2) sc__law_told.nd rfl (Or.inl rfl) (pe_cal c_is_event hgd hr (by decide) (passEN (L2N.takes_of rfl rfl rfl rfl)) (pa_cons (pv 0) pa_nil)))
  (pss_cons (ps_if (PW.pt (pw_or (pt_not (pt_truth (pe_callB call_isiM (by rfl) (by exact f_isinstance) boot_isinstance (pa_cons (pv 2) (pa_cons (pe_bltn (v := .ty (Ty.nm .bool)) (by rfl) (by exact f_bool) (by decide +kernel) rfl) pa_nil))) fun _ => rfl)) (pw_or1 (pt_cmpR (op_neG (room65 hr)) (pv 2) (pv 1) (nomark _))))) (pss_one (ps_ret pe_bl)) pss_nil)
  (pss_cons (ps_if (pt_not (pt_truth (pv 1) fun _ => rfl)) (pss_one (ps_ret pe_bl)) pss_nil)
  (pss_cons (ps_set (i := 3) sc__law_told.nd rfl (Or.inl rfl) (pe_cal0 (ks := [("thing" : Str)]) (perm := [0]) c_is_event hgd hr (by decide) (passEN (L2N.takes_of rfl rfl rfl rfl)) (fun _ _ _ _ _ _ us ws h1 h2 => match us, ws, h1, h2 with | [], [_], _, _ => rfl) (pk_cons (pv 0) pk_nil)))
  (pss_one (ps_ret (pe_and (pe_callB call_isiM (by rfl) (by exact f_isinstance) boot_isinstance (pa_cons (pv 3) (pa_cons (pe_bltn (v := .ty (Ty.nm .bool)) (by rfl) (by exact f_bool) (by decide +kernel) rfl) pa_nil))) (pe_one (pv 3))))))))),
  (ss_seq (ss_asg (se_callD (sa_cons se_var sa_nil)) sg_name)
  (ss_seq (ss_if (st_or (st_not (st_tru (se_isi .bool se_var))) (st_test (se_2 o_ne se_var se_var))) (ss_ret se_bl) ss_next)
  (ss_seq (ss_if (st_not (st_tru se_var)) (ss_ret se_bl) ss_next)
  (ss_seq (ss_asg (se_callK sa_nil (sa_cons se_var sa_nil)) sg_name)
  (ss_ret (se_and (se_isi .bool se_var) se_var))))))⟩
theorem cal__law_by_hand (T : TX K mg) : CalG P w K mg base 8 d__law_by_hand [] (spP K mg M__law_by_hand) := by
  have c__law_told : CalG P w K mg base 7 d__law_told [("_law_thing" : Str), ("_law_due" : Str)] (spP K mg M__law_told) := cal__law_told T
  obtain ⟨fd, F0⟩ := T.says.def_ (d := d__law_by_hand) (mem_at 29 rfl)
  have F : FunD K d__law_by_hand.name d__law_by_hand.qual d__law_by_hand.params d__law_by_hand.body d__law_by_hand.scope [] [] (He.fAd K d__law_by_hand.at_) fd := F0
  have B : Binds K fd [] [] := F.bindsN fun _ _ _ _ _ _ us hl => match us, hl with | [], _ => rfl
  have glo : mg d__law_by_hand.name = some (.ref (He.fAd K d__law_by_hand.at_)) := T.glo "_law_by_hand" (mem_at 29 rfl)
  refine ⟨⟨fd, F, ?_, B⟩, glo⟩
  show FnG P w K mg base _ _ _ _ _ (spP K mg (fnM 4 0 m__law_by_hand))
  refine fnP_ok (N := N__law_by_hand) (m := m__law_by_hand) F sc__law_by_hand (by decide) ?_
  intro cdv A outer s H E hgd hr
  exact ⟨_, (pss_cons (ps_set (i := 0) sc__law_by_hand.nd rfl (Or.inl rfl) (pe_lst (pa_cons (pe_tup (pa_cons pe_str (pa_cons (pe_tup pa_nil) pa_nil))) (pa_cons (pe_tup (pa_cons pe_str (pa_cons (pe_tup (pa_cons pe_int pa_nil)) pa_nil))) (pa_cons (pe_tup (pa_cons pe_str (pa_cons (pe_tup pa_nil) pa_nil))) (pa_cons (pe_tup (pa_cons pe_str (pa_cons (pe_tup (pa_cons pe_int (pa_cons pe_int (pa_cons pe_int pa_nil)))) pa_nil))) (pa_cons (pe_tup (pa_cons pe_str (pa_cons (pe_tup (pa_cons pe_int pa_nil)) (pa_cons pe_int pa_nil)))) (pa_cons (pe_tup (pa_cons pe_str (pa_cons (pe_tup (pa_cons pe_int (pa_cons pe_int (pa_cons pe_int pa_nil)))) (pa_cons pe_int pa_nil)))) pa_nil))))))))
  (pss_cons (ps_set (i := 0) sc__law_by_hand.nd rfl (Or.inl rfl) (pe_op op_add3 (pv 0) (pe_lst (pa_cons (pe_tup (pa_cons pe_str (pa_cons pe_int (pa_cons pe_int pa_nil)))) (pa_cons (pe_tup (pa_cons pe_str (pa_cons pe_int (pa_cons pe_int pa_nil)))) (pa_cons (pe_tup (pa_cons pe_str (pa_cons pe_int (pa_cons pe_int pa_nil)))) (pa_cons (pe_tup (pa_cons pe_str (pa_cons pe_int (pa_cons pe_int pa_nil)))) (pa_cons (pe_tup (pa_cons pe_str pa_nil)) (pa_cons (pe_tup (pa_cons pe_str (pa_cons (pe_tup (pa_cons pe_int (pa_cons pe_int pa_nil))) pa_nil))) pa_nil)))))))))
  (pss_cons (ps_for (passes_of rfl) rfl (pi_seq (pv 0)) (pg_name (i := 1) sc__law_by_hand.nd rfl (Or.inl rfl)) (pss_one (ps_if (pt_not (pt_truth (pe_cal c__law_told hgd hr (by decide) (passEN (L2N.takes_of rfl rfl rfl rfl)) (pa_cons (pv 1) (pa_cons pe_bl pa_nil))) fun _ => rfl)) (pss_one (ps_ret pe_bl)) pss_nil)))
  (pss_cons (ps_set (i := 2) sc__law_by_hand.nd rfl (Or.inl rfl) (pe_lst (pa_cons (pe_tup pa_nil) (pa_cons (pe_lst pa_nil) (pa_cons pe_non (pa_cons pe_bl (pa_cons pe_int (pa_cons pe_str (pa_cons pe_str (pa_cons (pe_tup (pa_cons pe_str (pa_cons (pe_tup pa_nil) pa_nil))) (pa_cons (pe_tup (pa_cons pe_str (pa_cons pe_non pa_nil))) (pa_cons (pe_lst (pa_cons pe_str pa_nil)) (pa_cons (pe_tup (pa_cons pe_str pa_nil)) (pa_cons (pe_tup (pa_cons pe_str (pa_cons (pe_tup (pa_cons pe_int (pa_cons pe_int pa_nil))) pa_nil))) pa_nil))))))))))))))
  (pss_cons (ps_set (i := 2) sc__law_by_hand.nd rfl (Or.inl rfl) (pe_op op_add3 (pv 2) (pe_lst (pa_cons (pe_tup (pa_cons pe_str (pa_cons (pe_tup (pa_cons pe_int (pa_cons pe_int pa_nil))) pa_nil))) (pa_cons (pe_tup (pa_cons pe_str (pa_cons (pe_tup (pa_cons pe_bl pa_nil)) pa_nil))) (pa_cons (pe_tup (pa_cons pe_str (pa_cons (pe_tup (pa_cons pe_int (pa_cons pe_bl pa_nil))) pa_nil))) (pa_cons (pe_tup (pa_cons pe_str (pa_cons pe_int pa_nil))) (pa_cons (pe_tup (pa_cons pe_str (pa_cons pe_int (pa_cons pe_int pa_nil)))) (pa_cons (pe_tup (pa_cons pe_str (pa_cons (pe_lst (pa_cons pe_int pa_nil)) pa_nil))) pa_nil)))))))))
  (pss_cons (ps_set (i := 2) sc__law_by_hand.nd rfl (Or.inl rfl) (pe_op op_add3 (pv 2) (pe_lst (pa_cons (pe_tup (pa_cons pe_str (pa_cons (pe_tup (pa_cons pe_int pa_nil)) (pa_cons pe_bl pa_nil)))) (pa_cons (pe_tup (pa_cons pe_str (pa_cons (pe_tup pa_nil) (pa_cons pe_int pa_nil)))) (pa_cons (pe_tup (pa_cons pe_str (pa_cons (pe_tup (pa_cons pe_int pa_nil)) (pa_cons pe_int pa_nil)))) (pa_cons (pe_tup (pa_cons pe_str (pa_cons (pe_tup (pa_cons pe_bl pa_nil)) (pa_cons pe_int pa_nil)))) pa_nil)))))))
  (pss_cons (ps_set (i := 2) sc__law_by_hand.nd rfl (Or.inl rfl) (pe_op op_add3 (pv 2) (pe_lst (pa_cons (pe_tup (pa_cons pe_str (pa_cons pe_int (pa_cons (pe_tup (pa_cons pe_int pa_nil)) pa_nil)))) (pa_cons (pe_tup (pa_cons pe_str (pa_cons (pe_lst (pa_cons pe_int pa_nil)) (pa_cons pe_int pa_nil)))) (pa_cons (pe_tup (pa_cons pe_str (pa_cons (pe_tup (pa_cons pe_int pa_nil)) pa_nil))) (pa_cons (pe_tup (pa_cons pe_str (pa_cons pe_int pa_nil))) (pa_cons (pe_tup (pa_cons pe_str (pa_cons (pe_tup (pa_cons pe_int (pa_cons pe_int pa_nil))) pa_nil))) (pa_cons (pe_tup (pa_cons pe_str (pa_cons pe_int (pa_cons pe_int (pa_cons pe_int pa_nil))))) pa_nil)))))))))
  (pss_cons (ps_set (i := 2) sc__law_by_hand.nd rfl (Or.inl rfl) (pe_op op_add3 (pv 2) (pe_lst (pa_cons (pe_tup (pa_cons pe_str (pa_cons pe_bl (pa_cons pe_int pa_nil)))) (pa_cons (pe_tup (pa_cons pe_str (pa_cons pe_int (pa_cons pe_bl pa_nil)))) (pa_cons (pe_tup (pa_cons pe_str (pa_cons pe_int pa_nil))) (pa_cons (pe_tup (pa_cons pe_str (pa_cons (pe_un un_neg pe_int) (pa_cons pe_int pa_nil)))) (pa_cons (pe_tup (pa_cons pe_str (pa_cons pe_int (pa_cons (pe_un un_neg pe_int) pa_nil)))) (pa_cons (pe_tup (pa_cons pe_str (pa_cons pe_int (pa_cons pe_non pa_nil)))) pa_nil)))))))))
  (pss_cons (ps_set (i := 2) sc__law_by_hand.nd rfl (Or.inl rfl) (pe_op op_add3 (pv 2) (pe_lst (pa_cons (pe_tup (pa_cons pe_str pa_nil)) (pa_cons (pe_tup (pa_cons pe_str (pa_cons pe_int (pa_cons pe_int pa_nil)))) (pa_cons (pe_tup (pa_cons pe_str (pa_cons pe_int (pa_cons pe_int pa_nil)))) (pa_cons (pe_tup (pa_cons (pe_tup (pa_cons pe_str pa_nil)) pa_nil)) (pa_cons (pe_tup (pa_cons pe_str pa_nil)) (pa_cons (pe_tup (pa_cons pe_str (pa_cons pe_int (pa_cons pe_int pa_nil)))) (pa_cons (pe_tup (pa_cons pe_int (pa_cons pe_int (pa_cons pe_int pa_nil)))) pa_nil))))))))))
  (pss_cons (ps_for (passes_of rfl) rfl (pi_seq (pv 2)) (pg_name (i := 3) sc__law_by_hand.nd rfl (Or.inl rfl)) (pss_one (ps_if (pt_not (pt_truth (pe_cal c__law_told hgd hr (by decide) (passEN (L2N.takes_of rfl rfl rfl rfl)) (pa_cons (pv 3) (pa_cons pe_bl pa_nil))) fun _ => rfl)) (pss_one (ps_ret pe_bl)) pss_nil)))
  (pss_one (ps_ret pe_bl)))))))))))),
  (ss_seq (ss_asg (se_l (sl_lst (sa_cons (se_tup (sa_cons se_str (sa_cons (se_tup sa_nil) sa_nil))) (sa_cons (se_tup (sa_cons se_str (sa_cons (se_tup (sa_cons se_int sa_nil)) sa_nil))) (sa_cons (se_tup (sa_cons se_str (sa_cons (se_tup sa_nil) sa_nil))) (sa_cons (se_tup (sa_cons se_str (sa_cons (se_tup (sa_cons se_int (sa_cons se_int (sa_cons se_int sa_nil)))) sa_nil))) (sa_cons (se_tup (sa_cons se_str (sa_cons (se_tup (sa_cons se_int sa_nil)) (sa_cons se_int sa_nil)))) (sa_cons (se_tup (sa_cons se_str (sa_cons (se_tup (sa_cons se_int (sa_cons se_int (sa_cons se_int sa_nil)))) (sa_cons se_int sa_nil)))) sa_nil)))))))) sg_name)
  (ss_seq (ss_asg (se_2 o_add se_var (se_l (sl_lst (sa_cons (se_tup (sa_cons se_str (sa_cons se_int (sa_cons se_int sa_nil)))) (sa_cons (se_tup (sa_cons se_str (sa_cons se_int (sa_cons se_int sa_nil)))) (sa_cons (se_tup (sa_cons se_str (sa_cons se_int (sa_cons se_int sa_nil)))) (sa_cons (se_tup (sa_cons se_str (sa_cons se_int (sa_cons se_int sa_nil)))) (sa_cons (se_tup (sa_cons se_str sa_nil)) (sa_cons (se_tup (sa_cons se_str (sa_cons (se_tup (sa_cons se_int (sa_cons se_int sa_nil))) sa_nil))) sa_nil))))))))) sg_name)
  (ss_seq (ss_for (si_seq se_var) sg_name (ss_if (st_not (st_tru (se_callD (sa_cons se_var (sa_cons se_bl sa_nil))))) (ss_ret se_bl) ss_next))
  (ss_seq (ss_asg (se_l (sl_lst (sa_cons (se_tup sa_nil) (sa_cons (se_l (sl_lst sa_nil)) (sa_cons se_non (sa_cons se_bl (sa_cons se_int (sa_cons se_str (sa_cons se_str (sa_cons (se_tup (sa_cons se_str (sa_cons (se_tup sa_nil) sa_nil))) (sa_cons (se_tup (sa_cons se_str (sa_cons se_non sa_nil))) (sa_cons (se_l (sl_lst (sa_cons se_str sa_nil))) (sa_cons (se_tup (sa_cons se_str sa_nil)) (sa_cons (se_tup (sa_cons se_str (sa_cons (se_tup (sa_cons se_int (sa_cons se_int sa_nil))) sa_nil))) sa_nil)))))))))))))) sg_name)
  (ss_seq (ss_asg (se_2 o_add se_var (se_l (sl_lst (sa_cons (se_tup (sa_cons se_str (sa_cons (se_tup (sa_cons se_int (sa_cons se_int sa_nil))) sa_nil))) (sa_cons (se_tup (sa_cons se_str (sa_cons (se_tup (sa_cons se_bl sa_nil)) sa_nil))) (sa_cons (se_tup (sa_cons se_str (sa_cons (se_tup (sa_cons se_int (sa_cons se_bl sa_nil))) sa_nil))) (sa_cons (se_tup (sa_cons se_str (sa_cons se_int sa_nil))) (sa_cons (se_tup (sa_cons se_str (sa_cons se_int (sa_cons se_int sa_nil)))) (sa_cons (se_tup (sa_cons se_str (sa_cons (se_l (sl_lst (sa_cons se_int sa_nil))) sa_nil))) sa_nil))))))))) sg_name)
  (ss_seq (ss_asg (se_2 o_add se_var (se_l (sl_lst (sa_cons (se_tup (sa_cons se_str (sa_cons (se_tup (sa_cons se_int sa_nil)) (sa_cons se_bl sa_nil)))) (sa_cons (se_tup (sa_cons se_str (sa_cons (se_tup sa_nil) (sa_cons se_int sa_nil)))) (sa_cons (se_tup (sa_cons se_str (sa_cons (se_tup (sa_cons se_int sa_nil)) (sa_cons se_int sa_nil)))) (sa_cons (se_tup (sa_cons se_str (sa_cons (se_tup (sa_cons se_bl sa_nil)) (sa_cons se_int sa_nil)))) sa_nil))))))) sg_name)
  (ss_seq (ss_asg (se_2 o_add se_var (se_l (sl_lst (sa_cons (se_tup (sa_cons se_str (sa_cons se_int (sa_cons (se_tup (sa_cons se_int sa_nil)) sa_nil)))) (sa_cons (se_tup (sa_cons se_str (sa_cons (se_l (sl_lst (sa_cons se_int sa_nil))) (sa_cons se_int sa_nil)))) (sa_cons (se_tup (sa_cons se_str (sa_cons (se_tup (sa_cons se_int sa_nil)) sa_nil))) (sa_cons (se_tup (sa_cons se_str (sa_cons se_int sa_nil))) (sa_cons (se_tup (sa_cons se_str (sa_cons (se_tup (sa_cons se_int (sa_cons se_int sa_nil))) sa_nil))) (sa_cons (se_tup (sa_cons se_str (sa_cons se_int (sa_cons se_int (sa_cons se_int sa_nil))))) sa_nil))))))))) sg_name)
  (ss_seq (ss_asg (se_2 o_add se_var (se_l (sl_lst (sa_cons (se_tup (sa_cons se_str (sa_cons se_bl (sa_cons se_int sa_nil)))) (sa_cons (se_tup (sa_cons se_str (sa_cons se_int (sa_cons se_bl sa_nil)))) (sa_cons (se_tup (sa_cons se_str (sa_cons se_int sa_nil))) (sa_cons (se_tup (sa_cons se_str (sa_cons (se_1 o_neg se_int) (sa_cons se_int sa_nil)))) (sa_cons (se_tup (sa_cons se_str (sa_cons se_int (sa_cons (se_1 o_neg se_int) sa_nil)))) (sa_cons (se_tup (sa_cons se_str (sa_cons se_int (sa_cons se_non sa_nil)))) sa_nil))))))))) sg_name)
  (ss_seq (ss_asg (se_2 o_add se_var (se_l (sl_lst (sa_cons (se_tup (sa_cons se_str sa_nil)) (sa_cons (se_tup (sa_cons se_str (sa_cons se_int (sa_cons se_int sa_nil)))) (sa_cons (se_tup (sa_cons se_str (sa_cons se_int (sa_cons se_int sa_nil)))) (sa_cons (se_tup (sa_cons (se_tup (sa_cons se_str sa_nil)) sa_nil)) (sa_cons (se_tup (sa_cons se_str sa_nil)) (sa_cons (se_tup (sa_cons se_str (sa_cons se_int (sa_cons se_int sa_nil)))) (sa_cons (se_tup (sa_cons se_int (sa_cons se_int (sa_cons se_int sa_nil)))) sa_nil)))))))))) sg_name)
  (ss_seq (ss_for (si_seq se_var) sg_name (ss_if (st_not (st_tru (se_callD (sa_cons se_var (sa_cons se_bl sa_nil))))) (ss_ret se_bl) ss_next))
  (ss_ret se_bl)))))))))))⟩
theorem cal__law_lot (T : TX K mg) : CalG P w K mg base 2 d__law_lot [("_law_feed_here" : Str)] (spD K mg M__law_lot) := by
  have c__law_draw : CalG P w K mg base 1 d__law_draw [("_law_feed_here" : Str), ("_law_many" : Str)] (spD K mg M__law_draw) := cal__law_draw T
  have f_range : mg "range" = none := T.free "range" (mem_at 75 rfl)
  have f_tuple : mg "tuple" = none := T.free "tuple" (mem_at 78 rfl)
  obtain ⟨fd, F0⟩ := T.says.def_ (d := d__law_lot) (mem_at 30 rfl)
  have F : FunD K d__law_lot.name d__law_lot.qual d__law_lot.params d__law_lot.body d__law_lot.scope [] [] (He.fAd K d__law_lot.at_) fd := F0
  have B : Binds K fd [("_law_feed_here" : Str)] [] := F.bindsN fun _ _ _ _ _ _ us hl => match us, hl with | [_], _ => rfl
  have glo : mg d__law_lot.name = some (.ref (He.fAd K d__law_lot.at_)) := T.glo "_law_lot" (mem_at 30 rfl)
  refine ⟨⟨fd, F, ?_, B⟩, glo⟩
  refine fnD_ok F sc__law_lot (by decide) ?_
  intro cdv A outer s H E hgd hr
  exact ⟨_, (pss_cons (ps_set (i := 1) sc__law_lot.nd rfl (Or.inl rfl) (pe_lst pa_nil))
  (pss_cons (ps_set (i := 2) sc__law_lot.nd rfl (Or.inl rfl) (pe_cal c__law_draw hgd hr (by decide) (passEN (L2N.takes_of rfl rfl rfl rfl)) (pa_cons (pv 0) (pa_cons pe_int pa_nil))))
  (pss_cons (ps_if (pt_cmpR (op_eqG (room65 hr)) (pe_cal c__law_draw hgd hr (by decide) (passEN (L2N.takes_of rfl rfl rfl rfl)) (pa_cons (pv 0) (pa_cons pe_int pa_nil))) pe_int (nomark _)) (pss_one (ps_set (i := 2) sc__law_lot.nd rfl (Or.inl rfl) (pe_op op_add3 (pv 2) (pe_op op_pow pe_int pe_int)))) pss_nil)
  (pss_cons (ps_for (passes_of rfl) rfl (pi_range1 (by rfl) (by exact f_range) (pa_cons (pe_cal c__law_draw hgd hr (by decide) (passEN (L2N.takes_of rfl rfl rfl rfl)) (pa_cons (pv 0) (pa_cons pe_int pa_nil))) pa_nil)) (pg_name (i := 3) sc__law_lot.nd rfl (Or.inl rfl)) (pss_cons (ps_expr (pe_bm PySem.F.plainAttrs_list PySem.F.slot_list_append PySem.F.type_list_append mt_append (pv 1) (pa_cons (pv 2) pa_nil)))
  (pss_one (ps_set (i := 2) sc__law_lot.nd rfl (Or.inl rfl) (pe_op op_add3 (pe_op op_add3 (pv 2) pe_int) (pe_op op_mulX (pe_cal c__law_draw hgd hr (by decide) (passEN (L2N.takes_of rfl rfl rfl rfl)) (pa_cons (pv 0) (pa_cons pe_int pa_nil))) (pe_cal c__law_draw hgd hr (by decide) (passEN (L2N.takes_of rfl rfl rfl rfl)) (pa_cons (pv 0) (pa_cons pe_int pa_nil)))))))))
  (pss_one (ps_ret (pe_callTy call_tuple_of (by rfl) (by exact f_tuple) (by decide +kernel) (pa_cons (pv 1) pa_nil)))))))),
  (ss_seq (ss_asgO (sl_lst sa_nil))
  (ss_seq (ss_asg (se_callM (sa_cons se_int sa_nil)) sg_name)
  (ss_seq (ss_if (st_test (se_2 o_eq (se_callM (sa_cons se_int sa_nil)) se_int)) (ss_asg (se_2 o_add se_var (se_2 o_pow se_int se_int)) sg_name) ss_next)
  (ss_seq (ss_for (si_rng1 (sa_cons (se_callM (sa_cons se_int sa_nil)) sa_nil)) sg_name (ss_seq (ss_app se_var)
  (ss_asg (se_2 o_add (se_2 o_add se_var se_int) (se_2 o_mul (se_callM (sa_cons se_int sa_nil)) (se_callM (sa_cons se_int sa_nil)))) sg_name)))
  (ss_ret (se_n o_tuple (sa_cons se_var sa_nil)))))))⟩
theorem cal__law_good (T : TX K mg) : CalG P w K mg base 3 d__law_good [("_law_feed_here" : Str)] (spD K mg M__law_good) := by
  have c__law_draw : CalG P w K mg base 1 d__law_draw [("_law_feed_here" : Str), ("_law_many" : Str)] (spD K mg M__law_draw) := cal__law_draw T
  have c__law_lot : CalG P w K mg base 2 d__law_lot [("_law_feed_here" : Str)] (spD K mg M__law_lot) := cal__law_lot T
  have f_range : mg "range" = none := T.free "range" (mem_at 75 rfl)
  have f_tuple : mg "tuple" = none := T.free "tuple" (mem_at 78 rfl)
  obtain ⟨fd, F0⟩ := T.says.def_ (d := d__law_good) (mem_at 31 rfl)
  have F : FunD K d__law_good.name d__law_good.qual d__law_good.params d__law_good.body d__law_good.scope [] [] (He.fAd K d__law_good.at_) fd := F0
  have B : Binds K fd [("_law_feed_here" : Str)] [] := F.bindsN fun _ _ _ _ _ _ us hl => match us, hl with | [_], _ => rfl
  have glo : mg d__law_good.name = some (.ref (He.fAd K d__law_good.at_)) := T.glo "_law_good" (mem_at 31 rfl)
  refine ⟨⟨fd, F, ?_, B⟩, glo⟩
  refine fnD_ok F sc__law_good (by decide) ?_
  intro cdv A outer s H E hgd hr
  exact ⟨_, (pss_cons (ps_set (i := 1) sc__law_good.nd rfl (Or.inl rfl) (pe_cal c__law_draw hgd hr (by decide) (passEN (L2N.takes_of rfl rfl rfl rfl)) (pa_cons (pv 0) (pa_cons pe_int pa_nil))))
  (pss_cons (ps_if (pt_cmpR (op_ltG (room65 hr)) (pv 1) pe_int (nomark _)) (pss_one (ps_ret (pe_tup (pa_cons (pe_ix ix_seq (pe_lst (pa_cons pe_str (pa_cons pe_str pa_nil))) (pv 1) fun _ _ => rfl) (pa_cons (pe_cal c__law_lot hgd hr (by decide) (passEN (L2N.takes_of rfl rfl rfl rfl)) (pa_cons (pv 0) pa_nil)) pa_nil))))) pss_nil)
  (pss_cons (ps_if (pt_cmpR (op_eqG (room65 hr)) (pv 1) pe_int (nomark _)) (pss_cons (ps_set (i := 4) sc__law_good.nd rfl (Or.inl rfl) (pe_op op_add3 pe_int (pe_cal c__law_draw hgd hr (by decide) (passEN (L2N.takes_of rfl rfl rfl rfl)) (pa_cons (pv 0) (pa_cons pe_int pa_nil)))))
  (pss_one (ps_ret (pe_tup (pa_cons pe_str (pa_cons (pe_callTy call_tuple_of (by rfl) (by exact f_tuple) (by decide +kernel) (pa_cons (pe_lc (own := [(("_law_k" : Str), 5)]) (g := gName 5) rfl sc__law_good.nd (pi_range1 (by rfl) (by exact f_range) (pa_cons (pv 4) pa_nil)) (blkOk_by (own := [(("_law_k" : Str), 5)]) (N := N__law_good) (sc := d__law_good.scope) (by decide +kernel)) (fun _ _ _ _ _ => pg_name (i := 5) sc__law_good.nd rfl (by first | exact Or.inl rfl | exact Or.inr rfl)) (fun _ _ _ _ _ => pts_nil) (fun _ _ _ _ _ => (pe_cal c__law_draw hgd hr (by decide) passF (pa_cons (pv 0) (pa_cons pe_int pa_nil))))) pa_nil)) (pa_cons (pe_cal c__law_draw hgd hr (by decide) (passEN (L2N.takes_of rfl rfl rfl rfl)) (pa_cons (pv 0) (pa_cons pe_int pa_nil))) pa_nil))))))) pss_nil)
  (pss_cons (ps_if (pt_cmpR (op_eqG (room65 hr)) (pv 1) pe_int (nomark _)) (pss_one (ps_ret (pe_tup (pa_cons pe_str pa_nil)))) pss_nil)
  (pss_cons (ps_set (i := 2) sc__law_good.nd rfl (Or.inl rfl) (pe_cal c__law_draw hgd hr (by decide) (passEN (L2N.takes_of rfl rfl rfl rfl)) (pa_cons (pv 0) (pa_cons pe_int pa_nil))))
  (pss_cons (ps_set (i := 3) sc__law_good.nd rfl (Or.inl rfl) (pe_cal c__law_draw hgd hr (by decide) (passEN (L2N.takes_of rfl rfl rfl rfl)) (pa_cons (pv 0) (pa_cons pe_int pa_nil))))
  (pss_cons (ps_if (pt_cmpR (op_eqG (room65 hr)) (pe_cal c__law_draw hgd hr (by decide) (passEN (L2N.takes_of rfl rfl rfl rfl)) (pa_cons (pv 0) (pa_cons pe_int pa_nil))) pe_int (nomark _)) (pss_one (ps_set (i := 3) sc__law_good.nd rfl (Or.inl rfl) (pe_op op_add3 (pv 3) (pe_op op_pow pe_int pe_int)))) pss_nil)
  (pss_one (ps_ret (pe_tup (pa_cons (pe_ix ix_seq (pe_lst (pa_cons pe_str (pa_cons pe_str (pa_cons pe_str pa_nil)))) (pe_op op_sub (pv 1) pe_int) fun _ _ => rfl) (pa_cons (pv 2) (pa_cons (pv 3) pa_nil))))))))))))),
  (ss_seq (ss_asg (se_callM (sa_cons se_int sa_nil)) sg_name)
  (ss_seq (ss_if (st_test (se_2 o_lt se_var se_int)) (ss_ret (se_tup (sa_cons (se_2 o_ix (se_l (sl_lst (sa_cons se_str (sa_cons se_str sa_nil)))) se_var) (sa_cons (se_callM sa_nil) sa_nil)))) ss_next)
  (ss_seq (ss_if (st_test (se_2 o_eq se_var se_int)) (ss_seq (ss_asg (se_2 o_add se_int (se_callM (sa_cons se_int sa_nil))) sg_name)
  (ss_ret (se_tup (sa_cons se_str (sa_cons (se_n o_tuple (sa_cons (se_l (sl_lc (si_rng1 (sa_cons se_var sa_nil)) (by decide) sg_name st_yes (se_callM (sa_cons se_int sa_nil)))) sa_nil)) (sa_cons (se_callM (sa_cons se_int sa_nil)) sa_nil)))))) ss_next)
  (ss_seq (ss_if (st_test (se_2 o_eq se_var se_int)) (ss_ret (se_tup (sa_cons se_str sa_nil))) ss_next)
  (ss_seq (ss_asg (se_callM (sa_cons se_int sa_nil)) sg_name)
  (ss_seq (ss_asg (se_callM (sa_cons se_int sa_nil)) sg_name)
  (ss_seq (ss_if (st_test (se_2 o_eq (se_callM (sa_cons se_int sa_nil)) se_int)) (ss_asg (se_2 o_add se_var (se_2 o_pow se_int se_int)) sg_name) ss_next)
  (ss_ret (se_tup (sa_cons (se_2 o_ix (se_l (sl_lst (sa_cons se_str (sa_cons se_str (sa_cons se_str sa_nil))))) (se_2 o_sub se_var se_int)) (sa_cons se_var (sa_cons se_var sa_nil))))))))))))⟩
theorem cal__law_strange (T : TX K mg) : CalG P w K mg base 1 d__law_strange [] (spP K mg M__law_strange) := by
  obtain ⟨fd, F0⟩ := T.says.def_ (d := d__law_strange) (mem_at 32 rfl)
  have F : FunD K d__law_strange.name d__law_strange.qual d__law_strange.params d__law_strange.body d__law_strange.scope [] [] (He.fAd K d__law_strange.at_) fd := F0
  have B : Binds K fd [] [] := F.bindsN fun _ _ _ _ _ _ us hl => match us, hl with | [], _ => rfl
  have glo : mg d__law_strange.name = some (.ref (He.fAd K d__law_strange.at_)) := T.glo "_law_strange" (mem_at 32 rfl)
  refine ⟨⟨fd, F, ?_, B⟩, glo⟩
  show FnG P w K mg base _ _ _ _ _ (spP K mg (fnM 0 0 m__law_strange))
  refine fnP_ok (N := N__law_strange) (m := m__law_strange) F sc__law_strange (by decide) ?_
  intro cdv A outer s H E hgd hr
  exact ⟨_, (pss_one (ps_ret (pe_lst (pa_cons pe_bl (pa_cons pe_bl (pa_cons (pe_un un_neg pe_int) (pa_cons pe_str (pa_cons pe_non (pa_cons (pe_tup (pa_cons pe_int pa_nil)) (pa_cons (pe_lst (pa_cons pe_int pa_nil)) (pa_cons (pe_tup pa_nil) (pa_cons pe_str (pa_cons (pe_un un_neg (pe_op op_pow pe_int pe_int)) pa_nil))))))))))))),
  (ss_ret (se_l (sl_lst (sa_cons se_bl (sa_cons se_bl (sa_cons (se_1 o_neg se_int) (sa_cons se_str (sa_cons se_non (sa_cons (se_tup (sa_cons se_int sa_nil)) (sa_cons (se_l (sl_lst (sa_cons se_int sa_nil))) (sa_cons (se_tup sa_nil) (sa_cons se_str (sa_cons (se_1 o_neg (se_2 o_pow se_int se_int)) sa_nil)))))))))))))⟩
theorem calr__law_any (T : TX K mg) : ∀ j, CalG P w K mg base (2 + 1 * j) d__law_any [("_law_feed_here" : Str), ("_law_depth" : Str)] (spD K mg (MR__law_any j))
  | 0 => by
    obtain ⟨fd, F0⟩ := T.says.def_ (d := d__law_any) (mem_at 33 rfl)
    have F : FunD K d__law_any.name d__law_any.qual d__law_any.params d__law_any.body d__law_any.scope [] [] (He.fAd K d__law_any.at_) fd := F0
    exact ⟨⟨fd, F, fnG_neverD, F.bindsN fun _ _ _ _ _ _ us hl => match us, hl with | [_, _], _ => rfl⟩, T.glo "_law_any" (mem_at 33 rfl)⟩
  | j + 1 => by
    have c__law_any : CalG P w K mg base (2 + 1 * j) d__law_any [("_law_feed_here" : Str), ("_law_depth" : Str)] (spD K mg (MR__law_any j)) := calr__law_any T j
    show CalG P w K mg base (2 + 1 * j + 0 + 1) d__law_any [("_law_feed_here" : Str), ("_law_depth" : Str)] (spD K mg (fnD 6 2 (m__law_any (MR__law_any j))))
    have c__law_draw : CalG P w K mg base 1 d__law_draw [("_law_feed_here" : Str), ("_law_many" : Str)] (spD K mg M__law_draw) := cal__law_draw T
    have c__law_lot : CalG P w K mg base 2 d__law_lot [("_law_feed_here" : Str)] (spD K mg M__law_lot) := cal__law_lot T
    have c__law_strange : CalG P w K mg base 1 d__law_strange [] (spP K mg M__law_strange) := cal__law_strange T
    have f_range : mg "range" = none := T.free "range" (mem_at 75 rfl)
    have f_tuple : mg "tuple" = none := T.free "tuple" (mem_at 78 rfl)
    obtain ⟨fd, F0⟩ := T.says.def_ (d := d__law_any) (mem_at 33 rfl)
    have F : FunD K d__law_any.name d__law_any.qual d__law_any.params d__law_any.body d__law_any.scope [] [] (He.fAd K d__law_any.at_) fd := F0
    have B : Binds K fd [("_law_feed_here" : Str), ("_law_depth" : Str)] [] := F.bindsN fun _ _ _ _ _ _ us hl => match us, hl with | [_, _], _ => rfl
    have glo : mg d__law_any.name = some (.ref (He.fAd K d__law_any.at_)) := T.glo "_law_any" (mem_at 33 rfl)
    refine ⟨⟨fd, F, ?_, B⟩, glo⟩
    refine fnD_ok F sc__law_any (by decide) ?_
    intro cdv A outer s H E hgd hr
    exact ⟨_, (pss_cons (ps_set (i := 2) sc__law_any.nd rfl (Or.inl rfl) (pe_cal c__law_draw hgd hr (by omega) (passEN (L2N.takes_of rfl rfl rfl rfl)) (pa_cons (pv 0) (pa_cons pe_int pa_nil))))
    (pss_cons (ps_if (PW.pt (pw_and (pt_cmpR (op_ltG (room65 hr)) (pv 2) pe_int (nomark _)) (pw_and1 (pt_cmpR (op_gtG (room65 hr)) (pv 1) pe_int (nomark _))))) (pss_cons (ps_set (i := 3) sc__law_any.nd rfl (Or.inl rfl) (pe_cal c__law_draw hgd hr (by omega) (passEN (L2N.takes_of rfl rfl rfl rfl)) (pa_cons (pv 0) (pa_cons pe_int pa_nil))))
    (pss_cons (ps_setLc (i := 4) (own := [(("_law_k" : Str), 5)]) (g := gName 5) rfl sc__law_any.nd rfl rfl (sw_true rfl rfl rfl (by decide +kernel)) (pi_range1 (by rfl) (by exact f_range) (pa_cons (pv 3) pa_nil)) (blkOk_by (own := [(("_law_k" : Str), 5)]) (N := N__law_any) (sc := d__law_any.scope) (by decide +kernel)) (fun _ _ _ _ _ => pg_name (i := 5) sc__law_any.nd rfl (by first | exact Or.inl rfl | exact Or.inr rfl)) (fun _ _ _ _ _ => pts_nil) (fun _ _ _ _ _ => (pe_cal c__law_any hgd hr (by omega) passF (pa_cons (pv 0) (pa_cons (pe_op op_sub (pv 1) pe_int) pa_nil)))))
    (pss_cons (ps_if (pt_cmpR (op_eqG (room65 hr)) (pv 2) pe_int (nomark _)) (pss_one (ps_ret (pv 4))) pss_nil)
    (pss_one (ps_ret (pe_callTy call_tuple_of (by rfl) (by exact f_tuple) (by decide +kernel) (pa_cons (pv 4) pa_nil))))))) pss_nil)
    (pss_cons (ps_if (pt_cmpR (op_eqG (room65 hr)) (pv 2) pe_int (nomark _)) (pss_one (ps_ret (pe_ix ix_seq (pe_lst (pa_cons pe_str (pa_cons pe_str (pa_cons pe_str (pa_cons pe_str (pa_cons pe_str (pa_cons pe_str (pa_cons pe_str (pa_cons pe_str pa_nil))))))))) (pe_cal c__law_draw hgd hr (by omega) (passEN (L2N.takes_of rfl rfl rfl rfl)) (pa_cons (pv 0) (pa_cons pe_int pa_nil))) fun _ _ => rfl))) pss_nil)
    (pss_cons (ps_if (pt_cmpR (op_eqG (room65 hr)) (pv 2) pe_int (nomark _)) (pss_one (ps_ret (pe_ix ix_seq (pe_calE c__law_strange hgd hr (by omega) (passEN (L2N.takes_of rfl rfl rfl rfl))) (pe_cal c__law_draw hgd hr (by omega) (passEN (L2N.takes_of rfl rfl rfl rfl)) (pa_cons (pv 0) (pa_cons pe_int pa_nil))) fun _ _ => rfl))) pss_nil)
    (pss_cons (ps_if (pt_cmpR (op_eqG (room65 hr)) (pv 2) pe_int (nomark _)) (pss_one (ps_ret (pe_cal c__law_lot hgd hr (by omega) (passEN (L2N.takes_of rfl rfl rfl rfl)) (pa_cons (pv 0) pa_nil)))) pss_nil)
    (pss_one (ps_ret (pe_cal c__law_draw hgd hr (by omega) (passEN (L2N.takes_of rfl rfl rfl rfl)) (pa_cons (pv 0) (pa_cons pe_int pa_nil)))))))))),
    (ss_seq (ss_asg (se_callM (sa_cons se_int sa_nil)) sg_name)
    (ss_seq (ss_if (st_and (st_test (se_2 o_lt se_var se_int)) (st_test (se_2 o_gt se_var se_int))) (ss_seq (ss_asg (se_callM (sa_cons se_int sa_nil)) sg_name)
    (ss_seq (ss_asg (se_l (sl_lc (si_rng1 (sa_cons se_var sa_nil)) (by decide) sg_name st_yes (se_callM (sa_cons (se_2 o_sub se_var se_int) sa_nil)))) sg_name)
    (ss_seq (ss_if (st_test (se_2 o_eq se_var se_int)) (ss_ret se_var) ss_next)
    (ss_ret (se_n o_tuple (sa_cons se_var sa_nil)))))) ss_next)
    (ss_seq (ss_if (st_test (se_2 o_eq se_var se_int)) (ss_ret (se_2 o_ix (se_l (sl_lst (sa_cons se_str (sa_cons se_str (sa_cons se_str (sa_cons se_str (sa_cons se_str (sa_cons se_str (sa_cons se_str (sa_cons se_str sa_nil)))))))))) (se_callM (sa_cons se_int sa_nil)))) ss_next)
    (ss_seq (ss_if (st_test (se_2 o_eq se_var se_int)) (ss_ret (se_2 o_ix (se_callD sa_nil) (se_callM (sa_cons se_int sa_nil)))) ss_next)
    (ss_seq (ss_if (st_test (se_2 o_eq se_var se_int)) (ss_ret (se_callM sa_nil)) ss_next)
    (ss_ret (se_callM (sa_cons se_int sa_nil))))))))⟩
theorem cal__law_any (T : TX K mg) : CalG P w K mg base 8 d__law_any [("_law_feed_here" : Str), ("_law_depth" : Str)] (spD K mg M__law_any) := calr__law_any T 6
theorem cal__law_others_by_hand (T : TX K mg) : CalG P w K mg base 12 d__law_others_by_hand [("_law_head" : Str), ("_law_goods" : Str)] (spP K mg M__law_others_by_hand) := by
  have c__law_is_log : CalG P w K mg base 11 d__law_is_log [("_law_thing" : Str), ("_law_due" : Str)] (spP K mg M__law_is_log) := cal__law_is_log T
  have f_list : mg "list" = none := T.free "list" (mem_at 72 rfl)
  obtain ⟨fd, F0⟩ := T.says.def_ (d := d__law_others_by_hand) (mem_at 34 rfl)
  have F : FunD K d__law_others_by_hand.name d__law_others_by_hand.qual d__law_others_by_hand.params d__law_others_by_hand.body d__law_others_by_hand.scope [] [] (He.fAd K d__law_others_by_hand.at_) fd := F0
  have B : Binds K fd [("_law_head" : Str), ("_law_goods" : Str)] [] := F.bindsN fun _ _ _ _ _ _ us hl => match us, hl with | [_, _], _ => rfl
  have glo : mg d__law_others_by_hand.name = some (.ref (He.fAd K d__law_others_by_hand.at_)) := T.glo "_law_others_by_hand" (mem_at 34 rfl)
  refine ⟨⟨fd, F, ?_, B⟩, glo⟩
  refine fnP_ok F sc__law_others_by_hand (by decide) ?_
  intro cdv A outer s H E hgd hr
  exact ⟨_, (pss_cons (ps_set (i := 2) sc__law_others_by_hand.nd rfl (Or.inl rfl) (pe_lst (pa_cons (pe_tup pa_nil) (pa_cons (pe_lst (pa_cons (pv 0) pa_nil)) (pa_cons (pe_lst (pa_cons (pv 0) (pa_cons (pe_tup (pa_cons pe_str pa_nil)) pa_nil))) (pa_cons (pv 0) (pa_cons pe_non (pa_cons pe_bl (pa_cons pe_str (pa_cons (pe_tup (pa_cons (pv 0) (pa_cons (pv 0) pa_nil))) (pa_cons (pe_tup (pa_cons (pv 0) (pa_cons (pe_tup pa_nil) pa_nil))) (pa_cons (pe_tup (pa_cons (pv 0) (pa_cons (pv 1) pa_nil))) (pa_cons (pe_tup (pa_cons (pv 0) (pa_cons pe_non pa_nil))) pa_nil)))))))))))))
  (pss_cons (ps_set (i := 2) sc__law_others_by_hand.nd rfl (Or.inl rfl) (pe_op op_add3 (pv 2) (pe_lst (pa_cons (pe_tup (pa_cons (pe_tup (pa_cons pe_str pa_nil)) (pa_cons (pv 0) pa_nil))) (pa_cons (pv 1) (pa_cons (pe_tup (pa_cons (pe_callTy call_list_of (by rfl) (by exact f_list) (by decide +kernel) (pa_cons (pv 0) pa_nil)) pa_nil)) (pa_cons (pe_tup (pa_cons (pv 0) (pa_cons (pe_lst (pa_cons pe_str pa_nil)) pa_nil))) (pa_cons (pe_tup (pa_cons (pv 0) (pa_cons pe_str pa_nil))) (pa_cons (pe_tup (pa_cons (pv 0) (pa_cons pe_int pa_nil))) (pa_cons (pe_tup (pa_cons (pe_tup (pa_cons (pv 0) pa_nil)) pa_nil)) pa_nil))))))))))
  (pss_cons (ps_for (passes_of rfl) rfl (pi_seq (pv 2)) (pg_name (i := 3) sc__law_others_by_hand.nd rfl (Or.inl rfl)) (pss_one (ps_if (pt_not (pt_truth (pe_cal c__law_is_log hgd hr (by decide) (passEN (L2N.takes_of rfl rfl rfl rfl)) (pa_cons (pv 3) (pa_cons pe_bl pa_nil))) fun _ => rfl)) (pss_one (ps_ret pe_bl)) pss_nil)))
  (pss_one (ps_ret pe_bl))))),
  (ss_seq (ss_asg (se_l (sl_lst (sa_cons (se_tup sa_nil) (sa_cons (se_l (sl_lst (sa_cons se_var sa_nil))) (sa_cons (se_l (sl_lst (sa_cons se_var (sa_cons (se_tup (sa_cons se_str sa_nil)) sa_nil)))) (sa_cons se_var (sa_cons se_non (sa_cons se_bl (sa_cons se_str (sa_cons (se_tup (sa_cons se_var (sa_cons se_var sa_nil))) (sa_cons (se_tup (sa_cons se_var (sa_cons (se_tup sa_nil) sa_nil))) (sa_cons (se_tup (sa_cons se_var (sa_cons se_var sa_nil))) (sa_cons (se_tup (sa_cons se_var (sa_cons se_non sa_nil))) sa_nil))))))))))))) sg_name)
  (ss_seq (ss_asg (se_2 o_add se_var (se_l (sl_lst (sa_cons (se_tup (sa_cons (se_tup (sa_cons se_str sa_nil)) (sa_cons se_var sa_nil))) (sa_cons se_var (sa_cons (se_tup (sa_cons (se_l (sl_n o_list (sa_cons se_var sa_nil))) sa_nil)) (sa_cons (se_tup (sa_cons se_var (sa_cons (se_l (sl_lst (sa_cons se_str sa_nil))) sa_nil))) (sa_cons (se_tup (sa_cons se_var (sa_cons se_str sa_nil))) (sa_cons (se_tup (sa_cons se_var (sa_cons se_int sa_nil))) (sa_cons (se_tup (sa_cons (se_tup (sa_cons se_var sa_nil)) sa_nil)) sa_nil)))))))))) sg_name)
  (ss_seq (ss_for (si_seq se_var) sg_name (ss_if (st_not (st_tru (se_callD (sa_cons se_var (sa_cons se_bl sa_nil))))) (ss_ret se_bl) ss_next))
  (ss_ret se_bl))))⟩
theorem cal__law_log_by_hand (T : TX K mg) : CalG P w K mg base 13 d__law_log_by_hand [("_law_goods" : Str)] (spP K mg M__law_log_by_hand) := by
  have c__law_others_by_hand : CalG P w K mg base 12 d__law_others_by_hand [("_law_head" : Str), ("_law_goods" : Str)] (spP K mg M__law_others_by_hand) := cal__law_others_by_hand T
  have c__law_is_log : CalG P w K mg base 11 d__law_is_log [("_law_thing" : Str), ("_law_due" : Str)] (spP K mg M__law_is_log) := cal__law_is_log T
  have f_list : mg "list" = none := T.free "list" (mem_at 72 rfl)
  obtain ⟨fd, F0⟩ := T.says.def_ (d := d__law_log_by_hand) (mem_at 35 rfl)
  have F : FunD K d__law_log_by_hand.name d__law_log_by_hand.qual d__law_log_by_hand.params d__law_log_by_hand.body d__law_log_by_hand.scope [] [] (He.fAd K d__law_log_by_hand.at_) fd := F0
  have B : Binds K fd [("_law_goods" : Str)] [] := F.bindsN fun _ _ _ _ _ _ us hl => match us, hl with | [_], _ => rfl
  have glo : mg d__law_log_by_hand.name = some (.ref (He.fAd K d__law_log_by_hand.at_)) := T.glo "_law_log_by_hand" (mem_at 35 rfl)
  refine ⟨⟨fd, F, ?_, B⟩, glo⟩
  refine fnP_ok F sc__law_log_by_hand (by decide) ?_
  intro cdv A outer s H E hgd hr
  exact ⟨_, (pss_cons (ps_set (i := 1) sc__law_log_by_hand.nd rfl (Or.inr rfl) (pe_tup (pa_cons pe_str (pa_cons (pe_tup (pa_cons (pe_tup (pa_cons pe_int (pa_cons pe_int (pa_cons pe_int pa_nil)))) (pa_cons (pe_tup (pa_cons (pe_tup (pa_cons pe_int (pa_cons pe_int pa_nil))) (pa_cons (pe_tup (pa_cons pe_int pa_nil)) pa_nil))) pa_nil))) (pa_cons (pe_tup (pa_cons (pe_tup (pa_cons pe_int (pa_cons pe_int pa_nil))) (pa_cons (pe_tup (pa_cons pe_int (pa_cons pe_int pa_nil))) pa_nil))) (pa_cons (pe_tup (pa_cons pe_int (pa_cons pe_int (pa_cons pe_int (pa_cons pe_int (pa_cons pe_int (pa_cons pe_int pa_nil))))))) pa_nil))))))
  (pss_cons (ps_set (i := 2) sc__law_log_by_hand.nd rfl (Or.inl rfl) (pe_lst (pa_cons (pe_tup (pa_cons (pv 1) pa_nil)) (pa_cons (pe_op op_add3 (pe_tup (pa_cons (pv 1) pa_nil)) (pv 0)) (pa_cons (pe_tup (pa_cons (pv 1) (pa_cons (pe_tup (pa_cons pe_str (pa_cons pe_int (pa_cons pe_int pa_nil)))) pa_nil))) (pa_cons (pe_tup (pa_cons (pv 1) (pa_cons (pe_tup (pa_cons pe_str (pa_cons (pe_tup (pa_cons pe_int pa_nil)) pa_nil))) (pa_cons (pe_tup (pa_cons pe_str (pa_cons (pe_tup (pa_cons pe_int pa_nil)) pa_nil))) pa_nil)))) pa_nil))))))
  (pss_cons (ps_set (i := 2) sc__law_log_by_hand.nd rfl (Or.inl rfl) (pe_op op_add3 (pv 2) (pe_lst (pa_cons (pe_tup (pa_cons (pe_tup (pa_cons pe_str (pa_cons (pe_tup (pa_cons (pe_tup (pa_cons pe_int pa_nil)) (pa_cons (pe_tup (pa_cons (pe_tup pa_nil) pa_nil)) pa_nil))) (pa_cons (pe_tup pa_nil) (pa_cons (pe_tup (pa_cons pe_int pa_nil)) pa_nil))))) pa_nil)) (pa_cons (pe_tup (pa_cons (pe_tup (pa_cons pe_str (pa_cons (pe_tup (pa_cons (pe_tup (pa_cons pe_int pa_nil)) (pa_cons (pe_tup (pa_cons (pe_tup (pa_cons pe_int pa_nil)) pa_nil)) pa_nil))) (pa_cons (pe_tup pa_nil) (pa_cons (pe_tup (pa_cons pe_int pa_nil)) pa_nil))))) (pa_cons (pe_tup (pa_cons pe_str pa_nil)) pa_nil))) pa_nil)))))
  (pss_cons (ps_for (passes_of rfl) rfl (pi_seq (pv 2)) (pg_name (i := 3) sc__law_log_by_hand.nd rfl (Or.inl rfl)) (pss_one (ps_if (pt_not (pt_truth (pe_cal c__law_is_log hgd hr (by decide) (passEN (L2N.takes_of rfl rfl rfl rfl)) (pa_cons (pv 3) (pa_cons pe_bl pa_nil))) fun _ => rfl)) (pss_one (ps_ret pe_bl)) pss_nil)))
  (pss_cons (ps_set (i := 4) sc__law_log_by_hand.nd rfl (Or.inr rfl) (pe_ix ix_seq (pv 1) pe_int fun _ _ => rfl))
  (pss_cons (ps_set (i := 5) sc__law_log_by_hand.nd rfl (Or.inr rfl) (pe_ix ix_seq (pv 1) pe_int fun _ _ => rfl))
  (pss_cons (ps_set (i := 6) sc__law_log_by_hand.nd rfl (Or.inr rfl) (pe_ix ix_seq (pv 1) pe_int fun _ _ => rfl))
  (pss_cons (ps_set (i := 7) sc__law_log_by_hand.nd rfl (Or.inl rfl) (pe_lst (pa_cons (pe_callTy call_list_of (by rfl) (by exact f_list) (by decide +kernel) (pa_cons (pv 4) pa_nil)) (pa_cons (pe_slice slr_2 (pv 4) po_none (po_some pe_int)) (pa_cons (pe_op op_add3 (pv 4) (pe_tup (pa_cons (pe_tup pa_nil) pa_nil))) (pa_cons (pe_tup (pa_cons (pe_tup pa_nil) (pa_cons (pe_tup (pa_cons (pe_tup pa_nil) pa_nil)) pa_nil))) (pa_cons (pe_tup (pa_cons (pe_tup (pa_cons pe_int (pa_cons pe_int (pa_cons pe_bl pa_nil)))) (pa_cons (pe_ix ix_seq (pv 4) pe_int fun _ _ => rfl) pa_nil))) (pa_cons (pe_tup (pa_cons (pe_tup (pa_cons pe_int (pa_cons pe_int (pa_cons pe_int pa_nil)))) (pa_cons (pe_ix ix_seq (pv 4) pe_int fun _ _ => rfl) pa_nil))) pa_nil))))))))
  (pss_cons (ps_set (i := 7) sc__law_log_by_hand.nd rfl (Or.inl rfl) (pe_op op_add3 (pv 7) (pe_lst (pa_cons (pe_tup (pa_cons (pe_lst (pa_cons pe_int (pa_cons pe_int (pa_cons pe_int pa_nil)))) (pa_cons (pe_ix ix_seq (pv 4) pe_int fun _ _ => rfl) pa_nil))) (pa_cons (pe_tup (pa_cons (pe_ix ix_seq (pv 4) pe_int fun _ _ => rfl) (pa_cons (pe_tup pa_nil) pa_nil))) (pa_cons (pe_tup (pa_cons (pe_ix ix_seq (pv 4) pe_int fun _ _ => rfl) (pa_cons (pe_tup (pa_cons (pe_tup (pa_cons pe_int pa_nil)) (pa_cons (pe_tup (pa_cons pe_int (pa_cons pe_int pa_nil))) pa_nil))) pa_nil))) (pa_cons (pe_tup (pa_cons (pe_ix ix_seq (pv 4) pe_int fun _ _ => rfl) (pa_cons (pe_tup (pa_cons (pe_tup (pa_cons pe_int (pa_cons pe_int pa_nil))) (pa_cons (pe_tup (pa_cons pe_int pa_nil)) pa_nil))) pa_nil))) pa_nil)))))))
  (pss_cons (ps_set (i := 7) sc__law_log_by_hand.nd rfl (Or.inl rfl) (pe_op op_add3 (pv 7) (pe_lst (pa_cons (pe_tup (pa_cons (pe_ix ix_seq (pv 4) pe_int fun _ _ => rfl) (pa_cons (pe_tup (pa_cons (pe_tup (pa_cons pe_int (pa_cons pe_int pa_nil))) (pa_cons (pe_tup (pa_cons pe_int pa_nil)) pa_nil))) pa_nil))) (pa_cons (pe_tup (pa_cons (pe_ix ix_seq (pv 4) pe_int fun _ _ => rfl) (pa_cons (pe_tup (pa_cons (pe_tup (pa_cons pe_int (pa_cons pe_int pa_nil))) (pa_cons (pe_tup (pa_cons pe_int (pa_cons pe_int pa_nil))) pa_nil))) pa_nil))) (pa_cons (pe_tup (pa_cons (pe_ix ix_seq (pv 4) pe_int fun _ _ => rfl) (pa_cons (pe_tup (pa_cons (pe_tup pa_nil) (pa_cons (pe_tup (pa_cons pe_int pa_nil)) pa_nil))) pa_nil))) (pa_cons pe_non pa_nil)))))))
  (pss_cons (ps_set (i := 7) sc__law_log_by_hand.nd rfl (Or.inl rfl) (pe_op op_add3 (pv 7) (pe_lst (pa_cons (pe_tup (pa_cons (pe_ix ix_seq (pv 4) pe_int fun _ _ => rfl) (pa_cons (pe_tup (pa_cons (pe_tup (pa_cons pe_int (pa_cons pe_int pa_nil))) (pa_cons (pe_tup (pa_cons pe_int pa_nil)) pa_nil))) pa_nil))) (pa_cons (pe_tup (pa_cons (pe_ix ix_seq (pv 4) pe_int fun _ _ => rfl) (pa_cons (pe_lst (pa_cons (pe_tup (pa_cons pe_int (pa_cons pe_int pa_nil))) (pa_cons (pe_tup (pa_cons pe_int pa_nil)) pa_nil))) pa_nil))) (pa_cons (pe_tup (pa_cons (pe_ix ix_seq (pv 4) pe_int fun _ _ => rfl) (pa_cons (pe_tup (pa_cons (pe_tup (pa_cons pe_int (pa_cons pe_bl pa_nil))) (pa_cons (pe_tup (pa_cons pe_int pa_nil)) pa_nil))) pa_nil))) (pa_cons pe_str pa_nil)))))))
  (pss_cons (ps_set (i := 8) sc__law_log_by_hand.nd rfl (Or.inl rfl) (pe_lst (pa_cons (pe_callTy call_list_of (by rfl) (by exact f_list) (by decide +kernel) (pa_cons (pv 5) pa_nil)) (pa_cons (pe_tup (pa_cons (pe_tup (pa_cons pe_int (pa_cons pe_int pa_nil))) (pa_cons (pe_tup (pa_cons pe_int (pa_cons pe_int pa_nil))) pa_nil))) (pa_cons (pe_tup (pa_cons (pe_tup (pa_cons pe_int (pa_cons pe_int pa_nil))) (pa_cons (pe_tup (pa_cons pe_int (pa_cons pe_int pa_nil))) pa_nil))) (pa_cons (pe_tup (pa_cons (pe_tup (pa_cons pe_int (pa_cons pe_int pa_nil))) (pa_cons (pe_tup (pa_cons pe_int (pa_cons pe_int pa_nil))) pa_nil))) (pa_cons (pe_tup (pa_cons (pe_tup (pa_cons pe_int (pa_cons pe_int pa_nil))) pa_nil)) (pa_cons (pe_tup (pa_cons (pe_tup (pa_cons pe_int (pa_cons pe_int pa_nil))) pa_nil)) (pa_cons (pe_tup (pa_cons (pe_tup (pa_cons pe_int (pa_cons pe_int (pa_cons pe_int pa_nil)))) pa_nil)) (pa_cons (pe_tup (pa_cons pe_int (pa_cons pe_int pa_nil))) pa_nil))))))))))
  (pss_cons (ps_set (i := 8) sc__law_log_by_hand.nd rfl (Or.inl rfl) (pe_op op_add3 (pv 8) (pe_lst (pa_cons (pe_tup (pa_cons (pe_tup (pa_cons pe_int (pa_cons pe_bl pa_nil))) (pa_cons (pe_tup (pa_cons pe_int (pa_cons pe_int pa_nil))) pa_nil))) (pa_cons (pe_tup (pa_cons (pe_lst (pa_cons pe_int (pa_cons pe_int pa_nil))) (pa_cons (pe_tup (pa_cons pe_int (pa_cons pe_int pa_nil))) pa_nil))) (pa_cons (pe_tup (pa_cons (pe_tup (pa_cons (pe_un un_neg pe_int) (pa_cons pe_int pa_nil))) pa_nil)) (pa_cons pe_non (pa_cons (pe_tup (pa_cons (pe_tup (pa_cons pe_int pa_nil)) pa_nil)) (pa_cons (pe_tup (pa_cons (pe_tup (pa_cons pe_bl (pa_cons pe_int pa_nil))) pa_nil)) pa_nil)))))))))
  (pss_cons (ps_set (i := 9) sc__law_log_by_hand.nd rfl (Or.inl rfl) (pe_lst (pa_cons (pe_callTy call_list_of (by rfl) (by exact f_list) (by decide +kernel) (pa_cons (pv 6) pa_nil)) (pa_cons (pe_slice slr_2 (pv 6) po_none (po_some (pe_un un_neg pe_int))) (pa_cons (pe_op op_add3 (pv 6) (pe_tup (pa_cons pe_int pa_nil))) (pa_cons (pe_tup pa_nil) (pa_cons pe_non (pa_cons (pe_tup (pa_cons pe_int (pa_cons pe_int (pa_cons pe_int (pa_cons pe_int (pa_cons pe_int (pa_cons pe_int pa_nil))))))) (pa_cons (pe_tup (pa_cons pe_int (pa_cons pe_int (pa_cons pe_int (pa_cons pe_int (pa_cons pe_int (pa_cons pe_bl pa_nil))))))) (pa_cons (pe_tup (pa_cons pe_int (pa_cons pe_int (pa_cons pe_int (pa_cons pe_int (pa_cons pe_int (pa_cons (pe_un un_neg pe_int) pa_nil))))))) pa_nil))))))))))
  (pss_cons (ps_set (i := 9) sc__law_log_by_hand.nd rfl (Or.inl rfl) (pe_op op_add3 (pv 9) (pe_lst (pa_cons (pe_tup (pa_cons pe_bl (pa_cons pe_int (pa_cons pe_int (pa_cons pe_int (pa_cons pe_int (pa_cons pe_int pa_nil))))))) (pa_cons (pe_tup (pa_cons pe_int (pa_cons pe_int (pa_cons pe_int (pa_cons pe_int (pa_cons pe_int (pa_cons pe_str pa_nil))))))) (pa_cons (pe_tup (pa_cons pe_int (pa_cons pe_int (pa_cons pe_int (pa_cons pe_int (pa_cons pe_int (pa_cons pe_non pa_nil))))))) (pa_cons (pe_tup (pa_cons (pe_tup (pa_cons pe_int (pa_cons pe_int (pa_cons pe_int (pa_cons pe_int (pa_cons pe_int (pa_cons pe_int pa_nil))))))) pa_nil)) (pa_cons pe_str pa_nil))))))))
  (pss_cons (ps_set (i := 10) sc__law_log_by_hand.nd rfl (Or.inl rfl) (pe_op op_add3 (pe_lc (own := [(("_law_one" : Str), 11)]) (g := gName 11) rfl sc__law_log_by_hand.nd (pi_seq (pv 7)) (blkOk_by (own := [(("_law_one" : Str), 11)]) (N := N__law_log_by_hand) (sc := d__law_log_by_hand.scope) (by decide +kernel)) (fun _ _ _ _ _ => pg_name (i := 11) sc__law_log_by_hand.nd rfl (by first | exact Or.inl rfl | exact Or.inr rfl)) (fun _ _ _ _ _ => pts_nil) (fun _ _ _ _ _ => (pe_tup (pa_cons (pe_ix ix_seq (pv 1) pe_int fun _ _ => rfl) (pa_cons (pv 11) (pa_cons (pv 5) (pa_cons (pv 6) pa_nil))))))) (pe_lc (own := [(("_law_one" : Str), 11)]) (g := gName 11) rfl sc__law_log_by_hand.nd (pi_seq (pv 8)) (blkOk_by (own := [(("_law_one" : Str), 11)]) (N := N__law_log_by_hand) (sc := d__law_log_by_hand.scope) (by decide +kernel)) (fun _ _ _ _ _ => pg_name (i := 11) sc__law_log_by_hand.nd rfl (by first | exact Or.inl rfl | exact Or.inr rfl)) (fun _ _ _ _ _ => pts_nil) (fun _ _ _ _ _ => (pe_tup (pa_cons (pe_ix ix_seq (pv 1) pe_int fun _ _ => rfl) (pa_cons (pv 4) (pa_cons (pv 11) (pa_cons (pv 6) pa_nil)))))))))
  (pss_cons (ps_set (i := 10) sc__law_log_by_hand.nd rfl (Or.inl rfl) (pe_op op_add3 (pv 10) (pe_lc (own := [(("_law_one" : Str), 11)]) (g := gName 11) rfl sc__law_log_by_hand.nd (pi_seq (pv 9)) (blkOk_by (own := [(("_law_one" : Str), 11)]) (N := N__law_log_by_hand) (sc := d__law_log_by_hand.scope) (by decide +kernel)) (fun _ _ _ _ _ => pg_name (i := 11) sc__law_log_by_hand.nd rfl (by first | exact Or.inl rfl | exact Or.inr rfl)) (fun _ _ _ _ _ => pts_nil) (fun _ _ _ _ _ => (pe_tup (pa_cons (pe_ix ix_seq (pv 1) pe_int fun _ _ => rfl) (pa_cons (pv 4) (pa_cons (pv 5) (pa_cons (pv 11) pa_nil)))))))))
  (pss_cons (ps_set (i := 10) sc__law_log_by_hand.nd rfl (Or.inl rfl) (pe_op op_add3 (pv 10) (pe_lst (pa_cons (pe_callTy call_list_of (by rfl) (by exact f_list) (by decide +kernel) (pa_cons (pv 1) pa_nil)) (pa_cons (pe_slice slr_2 (pv 1) (po_some pe_int) po_none) (pa_cons (pe_slice slr_2 (pv 1) po_none (po_some pe_int)) (pa_cons (pe_op op_add3 (pv 1) (pe_tup (pa_cons (pe_tup pa_nil) pa_nil))) (pa_cons (pe_tup (pa_cons pe_str (pa_cons (pv 4) (pa_cons (pv 5) (pa_cons (pv 6) pa_nil))))) (pa_cons (pe_tup (pa_cons pe_str (pa_cons (pe_tup (pa_cons pe_int pa_nil)) pa_nil))) (pa_cons (pe_tup pa_nil) (pa_cons pe_non pa_nil)))))))))))
  (pss_cons (ps_set (i := 10) sc__law_log_by_hand.nd rfl (Or.inl rfl) (pe_op op_add3 (pv 10) (pe_lst (pa_cons (pe_tup (pa_cons pe_str (pa_cons (pv 5) (pa_cons (pv 4) (pa_cons (pv 6) pa_nil))))) (pa_cons (pe_tup (pa_cons pe_str (pa_cons (pv 4) (pa_cons (pv 6) (pa_cons (pv 5) pa_nil))))) (pa_cons (pe_tup (pa_cons pe_non (pa_cons (pv 4) (pa_cons (pv 5) (pa_cons (pv 6) pa_nil))))) (pa_cons pe_str (pa_cons (pe_slice slr_2 (pv 1) po_none (po_some pe_int)) pa_nil))))))))
  (pss_cons (ps_for (passes_of rfl) rfl (pi_seq (pv 10)) (pg_name (i := 11) sc__law_log_by_hand.nd rfl (Or.inl rfl)) (pss_one (ps_if (PW.pt (pw_or (pt_not (pt_truth (pe_cal c__law_is_log hgd hr (by decide) (passEN (L2N.takes_of rfl rfl rfl rfl)) (pa_cons (pe_tup (pa_cons (pv 11) pa_nil)) (pa_cons pe_bl pa_nil))) fun _ => rfl)) (pw_or1 (pt_not (pt_truth (pe_cal c__law_is_log hgd hr (by decide) (passEN (L2N.takes_of rfl rfl rfl rfl)) (pa_cons (pe_op op_add3 (pe_tup (pa_cons (pv 11) pa_nil)) (pv 0)) (pa_cons pe_bl pa_nil))) fun _ => rfl))))) (pss_one (ps_ret pe_bl)) pss_nil)))
  (pss_one (ps_ret (pe_cal c__law_others_by_hand hgd hr (by decide) (passEN (L2N.takes_of rfl rfl rfl rfl)) (pa_cons (pv 1) (pa_cons (pv 0) pa_nil))))))))))))))))))))))))),
  (ss_seq (ss_asg (se_tup (sa_cons se_str (sa_cons (se_tup (sa_cons (se_tup (sa_cons se_int (sa_cons se_int (sa_cons se_int sa_nil)))) (sa_cons (se_tup (sa_cons (se_tup (sa_cons se_int (sa_cons se_int sa_nil))) (sa_cons (se_tup (sa_cons se_int sa_nil)) sa_nil))) sa_nil))) (sa_cons (se_tup (sa_cons (se_tup (sa_cons se_int (sa_cons se_int sa_nil))) (sa_cons (se_tup (sa_cons se_int (sa_cons se_int sa_nil))) sa_nil))) (sa_cons (se_tup (sa_cons se_int (sa_cons se_int (sa_cons se_int (sa_cons se_int (sa_cons se_int (sa_cons se_int sa_nil))))))) sa_nil))))) sg_name)
  (ss_seq (ss_asg (se_l (sl_lst (sa_cons (se_tup (sa_cons se_var sa_nil)) (sa_cons (se_2 o_add (se_tup (sa_cons se_var sa_nil)) se_var) (sa_cons (se_tup (sa_cons se_var (sa_cons (se_tup (sa_cons se_str (sa_cons se_int (sa_cons se_int sa_nil)))) sa_nil))) (sa_cons (se_tup (sa_cons se_var (sa_cons (se_tup (sa_cons se_str (sa_cons (se_tup (sa_cons se_int sa_nil)) sa_nil))) (sa_cons (se_tup (sa_cons se_str (sa_cons (se_tup (sa_cons se_int sa_nil)) sa_nil))) sa_nil)))) sa_nil)))))) sg_name)
  (ss_seq (ss_asg (se_2 o_add se_var (se_l (sl_lst (sa_cons (se_tup (sa_cons (se_tup (sa_cons se_str (sa_cons (se_tup (sa_cons (se_tup (sa_cons se_int sa_nil)) (sa_cons (se_tup (sa_cons (se_tup sa_nil) sa_nil)) sa_nil))) (sa_cons (se_tup sa_nil) (sa_cons (se_tup (sa_cons se_int sa_nil)) sa_nil))))) sa_nil)) (sa_cons (se_tup (sa_cons (se_tup (sa_cons se_str (sa_cons (se_tup (sa_cons (se_tup (sa_cons se_int sa_nil)) (sa_cons (se_tup (sa_cons (se_tup (sa_cons se_int sa_nil)) sa_nil)) sa_nil))) (sa_cons (se_tup sa_nil) (sa_cons (se_tup (sa_cons se_int sa_nil)) sa_nil))))) (sa_cons (se_tup (sa_cons se_str sa_nil)) sa_nil))) sa_nil))))) sg_name)
  (ss_seq (ss_for (si_seq se_var) sg_name (ss_if (st_not (st_tru (se_callD (sa_cons se_var (sa_cons se_bl sa_nil))))) (ss_ret se_bl) ss_next))
  (ss_seq (ss_asg (se_2 o_ix se_var se_int) sg_name)
  (ss_seq (ss_asg (se_2 o_ix se_var se_int) sg_name)
  (ss_seq (ss_asg (se_2 o_ix se_var se_int) sg_name)
  (ss_seq (ss_asg (se_l (sl_lst (sa_cons (se_l (sl_n o_list (sa_cons se_var sa_nil))) (sa_cons (se_sl se_var so_none (so_some se_int)) (sa_cons (se_2 o_add se_var (se_tup (sa_cons (se_tup sa_nil) sa_nil))) (sa_cons (se_tup (sa_cons (se_tup sa_nil) (sa_cons (se_tup (sa_cons (se_tup sa_nil) sa_nil)) sa_nil))) (sa_cons (se_tup (sa_cons (se_tup (sa_cons se_int (sa_cons se_int (sa_cons se_bl sa_nil)))) (sa_cons (se_2 o_ix se_var se_int) sa_nil))) (sa_cons (se_tup (sa_cons (se_tup (sa_cons se_int (sa_cons se_int (sa_cons se_int sa_nil)))) (sa_cons (se_2 o_ix se_var se_int) sa_nil))) sa_nil)))))))) sg_name)
  (ss_seq (ss_asg (se_2 o_add se_var (se_l (sl_lst (sa_cons (se_tup (sa_cons (se_l (sl_lst (sa_cons se_int (sa_cons se_int (sa_cons se_int sa_nil))))) (sa_cons (se_2 o_ix se_var se_int) sa_nil))) (sa_cons (se_tup (sa_cons (se_2 o_ix se_var se_int) (sa_cons (se_tup sa_nil) sa_nil))) (sa_cons (se_tup (sa_cons (se_2 o_ix se_var se_int) (sa_cons (se_tup (sa_cons (se_tup (sa_cons se_int sa_nil)) (sa_cons (se_tup (sa_cons se_int (sa_cons se_int sa_nil))) sa_nil))) sa_nil))) (sa_cons (se_tup (sa_cons (se_2 o_ix se_var se_int) (sa_cons (se_tup (sa_cons (se_tup (sa_cons se_int (sa_cons se_int sa_nil))) (sa_cons (se_tup (sa_cons se_int sa_nil)) sa_nil))) sa_nil))) sa_nil))))))) sg_name)
  (ss_seq (ss_asg (se_2 o_add se_var (se_l (sl_lst (sa_cons (se_tup (sa_cons (se_2 o_ix se_var se_int) (sa_cons (se_tup (sa_cons (se_tup (sa_cons se_int (sa_cons se_int sa_nil))) (sa_cons (se_tup (sa_cons se_int sa_nil)) sa_nil))) sa_nil))) (sa_cons (se_tup (sa_cons (se_2 o_ix se_var se_int) (sa_cons (se_tup (sa_cons (se_tup (sa_cons se_int (sa_cons se_int sa_nil))) (sa_cons (se_tup (sa_cons se_int (sa_cons se_int sa_nil))) sa_nil))) sa_nil))) (sa_cons (se_tup (sa_cons (se_2 o_ix se_var se_int) (sa_cons (se_tup (sa_cons (se_tup sa_nil) (sa_cons (se_tup (sa_cons se_int sa_nil)) sa_nil))) sa_nil))) (sa_cons se_non sa_nil))))))) sg_name)
  (ss_seq (ss_asg (se_2 o_add se_var (se_l (sl_lst (sa_cons (se_tup (sa_cons (se_2 o_ix se_var se_int) (sa_cons (se_tup (sa_cons (se_tup (sa_cons se_int (sa_cons se_int sa_nil))) (sa_cons (se_tup (sa_cons se_int sa_nil)) sa_nil))) sa_nil))) (sa_cons (se_tup (sa_cons (se_2 o_ix se_var se_int) (sa_cons (se_l (sl_lst (sa_cons (se_tup (sa_cons se_int (sa_cons se_int sa_nil))) (sa_cons (se_tup (sa_cons se_int sa_nil)) sa_nil)))) sa_nil))) (sa_cons (se_tup (sa_cons (se_2 o_ix se_var se_int) (sa_cons (se_tup (sa_cons (se_tup (sa_cons se_int (sa_cons se_bl sa_nil))) (sa_cons (se_tup (sa_cons se_int sa_nil)) sa_nil))) sa_nil))) (sa_cons se_str sa_nil))))))) sg_name)
  (ss_seq (ss_asg (se_l (sl_lst (sa_cons (se_l (sl_n o_list (sa_cons se_var sa_nil))) (sa_cons (se_tup (sa_cons (se_tup (sa_cons se_int (sa_cons se_int sa_nil))) (sa_cons (se_tup (sa_cons se_int (sa_cons se_int sa_nil))) sa_nil))) (sa_cons (se_tup (sa_cons (se_tup (sa_cons se_int (sa_cons se_int sa_nil))) (sa_cons (se_tup (sa_cons se_int (sa_cons se_int sa_nil))) sa_nil))) (sa_cons (se_tup (sa_cons (se_tup (sa_cons se_int (sa_cons se_int sa_nil))) (sa_cons (se_tup (sa_cons se_int (sa_cons se_int sa_nil))) sa_nil))) (sa_cons (se_tup (sa_cons (se_tup (sa_cons se_int (sa_cons se_int sa_nil))) sa_nil)) (sa_cons (se_tup (sa_cons (se_tup (sa_cons se_int (sa_cons se_int sa_nil))) sa_nil)) (sa_cons (se_tup (sa_cons (se_tup (sa_cons se_int (sa_cons se_int (sa_cons se_int sa_nil)))) sa_nil)) (sa_cons (se_tup (sa_cons se_int (sa_cons se_int sa_nil))) sa_nil)))))))))) sg_name)
  (ss_seq (ss_asg (se_2 o_add se_var (se_l (sl_lst (sa_cons (se_tup (sa_cons (se_tup (sa_cons se_int (sa_cons se_bl sa_nil))) (sa_cons (se_tup (sa_cons se_int (sa_cons se_int sa_nil))) sa_nil))) (sa_cons (se_tup (sa_cons (se_l (sl_lst (sa_cons se_int (sa_cons se_int sa_nil)))) (sa_cons (se_tup (sa_cons se_int (sa_cons se_int sa_nil))) sa_nil))) (sa_cons (se_tup (sa_cons (se_tup (sa_cons (se_1 o_neg se_int) (sa_cons se_int sa_nil))) sa_nil)) (sa_cons se_non (sa_cons (se_tup (sa_cons (se_tup (sa_cons se_int sa_nil)) sa_nil)) (sa_cons (se_tup (sa_cons (se_tup (sa_cons se_bl (sa_cons se_int sa_nil))) sa_nil)) sa_nil))))))))) sg_name)
  (ss_seq (ss_asg (se_l (sl_lst (sa_cons (se_l (sl_n o_list (sa_cons se_var sa_nil))) (sa_cons (se_sl se_var so_none (so_some (se_1 o_neg se_int))) (sa_cons (se_2 o_add se_var (se_tup (sa_cons se_int sa_nil))) (sa_cons (se_tup sa_nil) (sa_cons se_non (sa_cons (se_tup (sa_cons se_int (sa_cons se_int (sa_cons se_int (sa_cons se_int (sa_cons se_int (sa_cons se_int sa_nil))))))) (sa_cons (se_tup (sa_cons se_int (sa_cons se_int (sa_cons se_int (sa_cons se_int (sa_cons se_int (sa_cons se_bl sa_nil))))))) (sa_cons (se_tup (sa_cons se_int (sa_cons se_int (sa_cons se_int (sa_cons se_int (sa_cons se_int (sa_cons (se_1 o_neg se_int) sa_nil))))))) sa_nil)))))))))) sg_name)
  (ss_seq (ss_asg (se_2 o_add se_var (se_l (sl_lst (sa_cons (se_tup (sa_cons se_bl (sa_cons se_int (sa_cons se_int (sa_cons se_int (sa_cons se_int (sa_cons se_int sa_nil))))))) (sa_cons (se_tup (sa_cons se_int (sa_cons se_int (sa_cons se_int (sa_cons se_int (sa_cons se_int (sa_cons se_str sa_nil))))))) (sa_cons (se_tup (sa_cons se_int (sa_cons se_int (sa_cons se_int (sa_cons se_int (sa_cons se_int (sa_cons se_non sa_nil))))))) (sa_cons (se_tup (sa_cons (se_tup (sa_cons se_int (sa_cons se_int (sa_cons se_int (sa_cons se_int (sa_cons se_int (sa_cons se_int sa_nil))))))) sa_nil)) (sa_cons se_str sa_nil)))))))) sg_name)
  (ss_seq (ss_asg (se_2 o_add (se_l (sl_lc (si_seq se_var) (by decide) sg_name st_yes (se_tup (sa_cons (se_2 o_ix se_var se_int) (sa_cons se_var (sa_cons se_var (sa_cons se_var sa_nil))))))) (se_l (sl_lc (si_seq se_var) (by decide) sg_name st_yes (se_tup (sa_cons (se_2 o_ix se_var se_int) (sa_cons se_var (sa_cons se_var (sa_cons se_var sa_nil)))))))) sg_name)
  (ss_seq (ss_asg (se_2 o_add se_var (se_l (sl_lc (si_seq se_var) (by decide) sg_name st_yes (se_tup (sa_cons (se_2 o_ix se_var se_int) (sa_cons se_var (sa_cons se_var (sa_cons se_var sa_nil)))))))) sg_name)
  (ss_seq (ss_asg (se_2 o_add se_var (se_l (sl_lst (sa_cons (se_l (sl_n o_list (sa_cons se_var sa_nil))) (sa_cons (se_sl se_var (so_some se_int) so_none) (sa_cons (se_sl se_var so_none (so_some se_int)) (sa_cons (se_2 o_add se_var (se_tup (sa_cons (se_tup sa_nil) sa_nil))) (sa_cons (se_tup (sa_cons se_str (sa_cons se_var (sa_cons se_var (sa_cons se_var sa_nil))))) (sa_cons (se_tup (sa_cons se_str (sa_cons (se_tup (sa_cons se_int sa_nil)) sa_nil))) (sa_cons (se_tup sa_nil) (sa_cons se_non sa_nil))))))))))) sg_name)
  (ss_seq (ss_asg (se_2 o_add se_var (se_l (sl_lst (sa_cons (se_tup (sa_cons se_str (sa_cons se_var (sa_cons se_var (sa_cons se_var sa_nil))))) (sa_cons (se_tup (sa_cons se_str (sa_cons se_var (sa_cons se_var (sa_cons se_var sa_nil))))) (sa_cons (se_tup (sa_cons se_non (sa_cons se_var (sa_cons se_var (sa_cons se_var sa_nil))))) (sa_cons se_str (sa_cons (se_sl se_var so_none (so_some se_int)) sa_nil)))))))) sg_name)
  (ss_seq (ss_for (si_seq se_var) sg_name (ss_if (st_or (st_not (st_tru (se_callD (sa_cons (se_tup (sa_cons se_var sa_nil)) (sa_cons se_bl sa_nil))))) (st_not (st_tru (se_callD (sa_cons (se_2 o_add (se_tup (sa_cons se_var sa_nil)) se_var) (sa_cons se_bl sa_nil)))))) (ss_ret se_bl) ss_next))
  (ss_ret (se_callD (sa_cons se_var (sa_cons se_var sa_nil))))))))))))))))))))))))⟩
theorem cal_LiveHouses____init__ (T : TX K mg) : CalI P w K mg base 9 "LiveHouses" d_LiveHouses____init__ [("self" : Str), ("ground" : Str), ("net" : Str), ("table" : Str)] (spV K mg "LiveHouses" M_LiveHouses____init__) := by
  have c_a_want : CalG P w K mg base 3 d_a_want [("good" : Str), ("word" : Str)] (spP K mg M_a_want) := cal_a_want T
  have c_is_ground : CalG P w K mg base 8 d_is_ground [("thing" : Str)] (spP K mg M_is_ground) := cal_is_ground T
  have c_is_net : CalG P w K mg base 6 d_is_net [("many" : Str), ("thing" : Str)] (spP K mg M_is_net) := cal_is_net T
  have c_is_table : CalG P w K mg base 5 d_is_table [("sizes" : Str), ("thing" : Str)] (spP K mg M_is_table) := cal_is_table T
  have f_len : mg "len" = none := T.free "len" (mem_at 71 rfl)
  obtain ⟨fd, F0⟩ := T.says.def_ (d := d_LiveHouses____init__) (mem_at 36 rfl)
  have F : FunD K d_LiveHouses____init__.name d_LiveHouses____init__.qual d_LiveHouses____init__.params d_LiveHouses____init__.body d_LiveHouses____init__.scope [] [] (He.fAd K d_LiveHouses____init__.at_) fd := F0
  have B : Binds K fd [("self" : Str), ("ground" : Str), ("net" : Str), ("table" : Str)] [] := F.bindsN fun _ _ _ _ _ _ us hl => match us, hl with | [_, _, _, _], _ => rfl
  refine ⟨⟨fd, F, ?_, B⟩, mkr_LiveHouses T, glo_LiveHouses T⟩
  refine fnV_ok F sc_LiveHouses____init__ (by decide) ?_
  intro cdv A outer s H E hgd hr
  exact ⟨_, (pss_cons (ps_expr (pe_cal c_a_want hgd hr (by decide) (passEN (L2N.takes_of rfl rfl rfl rfl)) (pa_cons (pe_cal c_is_ground hgd hr (by decide) (passEN (L2N.takes_of rfl rfl rfl rfl)) (pa_cons (pv 1) pa_nil)) (pa_cons pe_str pa_nil))))
  (pss_cons (ps_expr (pe_cal c_a_want hgd hr (by decide) (passEN (L2N.takes_of rfl rfl rfl rfl)) (pa_cons (pe_cal c_is_net hgd hr (by decide) (passEN (L2N.takes_of rfl rfl rfl rfl)) (pa_cons (pe_callB call_len_seq (by rfl) (by exact f_len) (by decide +kernel) (pa_cons (pe_ix ix_seq (pv 1) pe_int fun _ _ => rfl) pa_nil)) (pa_cons (pv 2) pa_nil))) (pa_cons pe_str pa_nil))))
  (pss_cons (ps_expr (pe_cal c_a_want hgd hr (by decide) (passEN (L2N.takes_of rfl rfl rfl rfl)) (pa_cons (pe_cal c_is_table hgd hr (by decide) (passEN (L2N.takes_of rfl rfl rfl rfl)) (pa_cons (pe_ix ix_seq (pv 1) pe_int fun _ _ => rfl) (pa_cons (pv 3) pa_nil))) (pa_cons pe_str pa_nil))))
  (pss_cons (ps_fld (pv 0) (pe_tup (pa_cons (pv 1) (pa_cons (pv 2) (pa_cons (pv 3) pa_nil)))) (by rfl))
  (pss_cons (ps_fld (pv 0) (pe_tup (pa_cons (pv 1) (pa_cons (pv 2) (pa_cons (pv 3) pa_nil)))) (by rfl))
  (pss_cons (ps_fld (pv 0) (pe_lst pa_nil) (by rfl))
  (pss_cons (ps_fld (pv 0) (pe_lst pa_nil) (by rfl))
  (pss_cons (ps_fld (pv 0) pe_int (by rfl))
  (pss_one (ps_fld (pv 0) pe_int (by rfl))))))))))),
  (ss_seq (ss_drop (se_callD (sa_cons (se_callD (sa_cons se_var sa_nil)) (sa_cons se_str sa_nil))))
  (ss_seq (ss_drop (se_callD (sa_cons (se_callD (sa_cons (se_n o_len (sa_cons (se_2 o_ix se_var se_int) sa_nil)) (sa_cons se_var sa_nil))) (sa_cons se_str sa_nil))))
  (ss_seq (ss_drop (se_callD (sa_cons (se_callD (sa_cons (se_2 o_ix se_var se_int) (sa_cons se_var sa_nil))) (sa_cons se_str sa_nil))))
  (ss_seq (ss_putF (cls_LiveHouses T) (no_LiveHouses__begun T) (se_tup (sa_cons se_var (sa_cons se_var (sa_cons se_var sa_nil)))))
  (ss_seq (ss_putF (cls_LiveHouses T) (no_LiveHouses__state T) (se_tup (sa_cons se_var (sa_cons se_var (sa_cons se_var sa_nil)))))
  (ss_seq (ss_putF (cls_LiveHouses T) (no_LiveHouses__done T) (se_l (sl_lst sa_nil)))
  (ss_seq (ss_putF (cls_LiveHouses T) (no_LiveHouses__kept T) (se_l (sl_lst sa_nil)))
  (ss_seq (ss_putF (cls_LiveHouses T) (no_LiveHouses__started T) se_int)
  (ss_putF (cls_LiveHouses T) (no_LiveHouses__finished T) se_int)))))))))⟩
theorem cal_feared_in (T : TX K mg) : CalG P w K mg base 2 d_feared_in [("fears" : Str), ("lot" : Str)] (spP K mg M_feared_in) := by
  have c_lot_within : CalG P w K mg base 1 d_lot_within [("one" : Str), ("other" : Str)] (spP K mg M_lot_within) := cal_lot_within T
  have f_any : mg "any" = none := T.free "any" (mem_at 67 rfl)
  obtain ⟨fd, F0⟩ := T.says.def_ (d := d_feared_in) (mem_at 37 rfl)
  have F : FunD K d_feared_in.name d_feared_in.qual d_feared_in.params d_feared_in.body d_feared_in.scope [] [] (He.fAd K d_feared_in.at_) fd := F0
  have B : Binds K fd [("fears" : Str), ("lot" : Str)] [] := F.bindsN fun _ _ _ _ _ _ us hl => match us, hl with | [_, _], _ => rfl
  have glo : mg d_feared_in.name = some (.ref (He.fAd K d_feared_in.at_)) := T.glo "feared_in" (mem_at 37 rfl)
  refine ⟨⟨fd, F, ?_, B⟩, glo⟩
  refine fnP_ok F sc_feared_in (by decide) ?_
  intro cdv A outer s H E hgd hr
  exact ⟨_, (pss_one (ps_ret (pe_callB (cr_any (by rfl)) (by rfl) (by exact f_any) (by decide +kernel) (pa_cons (pe_lc (own := [(("fear" : Str), 2)]) (g := gName 2) rfl sc_feared_in.nd (pi_seq (pv 0)) (blkOk_by (own := [(("fear" : Str), 2)]) (N := N_feared_in) (sc := d_feared_in.scope) (by decide +kernel)) (fun _ _ _ _ _ => pg_name (i := 2) sc_feared_in.nd rfl (by first | exact Or.inl rfl | exact Or.inr rfl)) (fun _ _ _ _ _ => pts_nil) (fun _ _ _ _ _ => (pe_cal c_lot_within hgd hr (by decide) passF (pa_cons (pv 1) (pa_cons (pv 2) pa_nil))))) pa_nil)))),
  (ss_ret (se_n o_any (sa_cons (se_l (sl_lc (si_seq se_var) (by decide) sg_name st_yes (se_callD (sa_cons se_var (sa_cons se_var sa_nil))))) sa_nil)))⟩
theorem cal_is_feared (T : TX K mg) : CalG P w K mg base 7 d_is_feared [("many" : Str), ("fears" : Str), ("lot" : Str)] (spP K mg M_is_feared) := by
  have c_a_want : CalG P w K mg base 3 d_a_want [("good" : Str), ("word" : Str)] (spP K mg M_a_want) := cal_a_want T
  have c_feared_in : CalG P w K mg base 2 d_feared_in [("fears" : Str), ("lot" : Str)] (spP K mg M_feared_in) := cal_feared_in T
  have c_many_fits : CalG P w K mg base 2 d_many_fits [("thing" : Str)] (spP K mg M_many_fits) := cal_many_fits T
  have c_fears_fit : CalG P w K mg base 6 d_fears_fit [("many" : Str), ("thing" : Str)] (spP K mg M_fears_fit) := cal_fears_fit T
  have c_lot_fits : CalG P w K mg base 4 d_lot_fits [("many" : Str), ("thing" : Str)] (spP K mg M_lot_fits) := cal_lot_fits T
  obtain ⟨fd, F0⟩ := T.says.def_ (d := d_is_feared) (mem_at 38 rfl)
  have F : FunD K d_is_feared.name d_is_feared.qual d_is_feared.params d_is_feared.body d_is_feared.scope [] [] (He.fAd K d_is_feared.at_) fd := F0
  have B : Binds K fd [("many" : Str), ("fears" : Str), ("lot" : Str)] [] := F.bindsN fun _ _ _ _ _ _ us hl => match us, hl with | [_, _, _], _ => rfl
  have glo : mg d_is_feared.name = some (.ref (He.fAd K d_is_feared.at_)) := T.glo "is_feared" (mem_at 38 rfl)
  refine ⟨⟨fd, F, ?_, B⟩, glo⟩
  refine fnP_ok F sc_is_feared (by decide) ?_
  intro cdv A outer s H E hgd hr
  exact ⟨_, (pss_cons (ps_expr (pe_cal c_a_want hgd hr (by decide) (passEN (L2N.takes_of rfl rfl rfl rfl)) (pa_cons (pe_cal c_many_fits hgd hr (by decide) (passEN (L2N.takes_of rfl rfl rfl rfl)) (pa_cons (pv 0) pa_nil)) (pa_cons pe_str pa_nil))))
  (pss_cons (ps_expr (pe_cal c_a_want hgd hr (by decide) (passEN (L2N.takes_of rfl rfl rfl rfl)) (pa_cons (pe_cal c_fears_fit hgd hr (by decide) (passEN (L2N.takes_of rfl rfl rfl rfl)) (pa_cons (pv 0) (pa_cons (pv 1) pa_nil))) (pa_cons pe_str pa_nil))))
  (pss_cons (ps_expr (pe_cal c_a_want hgd hr (by decide) (passEN (L2N.takes_of rfl rfl rfl rfl)) (pa_cons (pe_cal c_lot_fits hgd hr (by decide) (passEN (L2N.takes_of rfl rfl rfl rfl)) (pa_cons (pv 0) (pa_cons (pv 2) pa_nil))) (pa_cons pe_str pa_nil))))
  (pss_one (ps_ret (pe_cal c_feared_in hgd hr (by decide) (passEN (L2N.takes_of rfl rfl rfl rfl)) (pa_cons (pv 1) (pa_cons (pv 2) pa_nil)))))))),
  (ss_seq (ss_drop (se_callD (sa_cons (se_callD (sa_cons se_var sa_nil)) (sa_cons se_str sa_nil))))
  (ss_seq (ss_drop (se_callD (sa_cons (se_callD (sa_cons se_var (sa_cons se_var sa_nil))) (sa_cons se_str sa_nil))))
  (ss_seq (ss_drop (se_callD (sa_cons (se_callD (sa_cons se_var (sa_cons se_var sa_nil))) (sa_cons se_str sa_nil))))
  (ss_ret (se_callD (sa_cons se_var (sa_cons se_var sa_nil)))))))⟩
theorem cal_is_lot (T : TX K mg) : CalG P w K mg base 5 d_is_lot [("many" : Str), ("thing" : Str)] (spP K mg M_is_lot) := by
  have c_a_want : CalG P w K mg base 3 d_a_want [("good" : Str), ("word" : Str)] (spP K mg M_a_want) := cal_a_want T
  have c_lot_fits : CalG P w K mg base 4 d_lot_fits [("many" : Str), ("thing" : Str)] (spP K mg M_lot_fits) := cal_lot_fits T
  have c_many_fits : CalG P w K mg base 2 d_many_fits [("thing" : Str)] (spP K mg M_many_fits) := cal_many_fits T
  obtain ⟨fd, F0⟩ := T.says.def_ (d := d_is_lot) (mem_at 39 rfl)
  have F : FunD K d_is_lot.name d_is_lot.qual d_is_lot.params d_is_lot.body d_is_lot.scope [] [] (He.fAd K d_is_lot.at_) fd := F0
  have B : Binds K fd [("many" : Str), ("thing" : Str)] [] := F.bindsN fun _ _ _ _ _ _ us hl => match us, hl with | [_, _], _ => rfl
  have glo : mg d_is_lot.name = some (.ref (He.fAd K d_is_lot.at_)) := T.glo "is_lot" (mem_at 39 rfl)
  refine ⟨⟨fd, F, ?_, B⟩, glo⟩
  refine fnP_ok F sc_is_lot (by decide) ?_
  intro cdv A outer s H E hgd hr
  exact ⟨_, (pss_cons (ps_expr (pe_cal c_a_want hgd hr (by decide) (passEN (L2N.takes_of rfl rfl rfl rfl)) (pa_cons (pe_cal c_many_fits hgd hr (by decide) (passEN (L2N.takes_of rfl rfl rfl rfl)) (pa_cons (pv 0) pa_nil)) (pa_cons pe_str pa_nil))))
  (pss_one (ps_ret (pe_cal c_lot_fits hgd hr (by decide) (passEN (L2N.takes_of rfl rfl rfl rfl)) (pa_cons (pv 0) (pa_cons (pv 1) pa_nil)))))),
  (ss_seq (ss_drop (se_callD (sa_cons (se_callD (sa_cons se_var sa_nil)) (sa_cons se_str sa_nil))))
  (ss_ret (se_callD (sa_cons se_var (sa_cons se_var sa_nil)))))⟩
theorem cal__lot_reason (T : TX K mg) : CalG P w K mg base 8 d__lot_reason [("many" : Str), ("fears" : Str), ("name" : Str), ("lot" : Str)] (spP K mg M__lot_reason) := by
  have c_is_feared : CalG P w K mg base 7 d_is_feared [("many" : Str), ("fears" : Str), ("lot" : Str)] (spP K mg M_is_feared) := cal_is_feared T
  have c_is_lot : CalG P w K mg base 5 d_is_lot [("many" : Str), ("thing" : Str)] (spP K mg M_is_lot) := cal_is_lot T
  obtain ⟨fd, F0⟩ := T.says.def_ (d := d__lot_reason) (mem_at 40 rfl)
  have F : FunD K d__lot_reason.name d__lot_reason.qual d__lot_reason.params d__lot_reason.body d__lot_reason.scope [] [] (He.fAd K d__lot_reason.at_) fd := F0
  have B : Binds K fd [("many" : Str), ("fears" : Str), ("name" : Str), ("lot" : Str)] [] := F.bindsN fun _ _ _ _ _ _ us hl => match us, hl with | [_, _, _, _], _ => rfl
  have glo : mg d__lot_reason.name = some (.ref (He.fAd K d__lot_reason.at_)) := T.glo "_lot_reason" (mem_at 40 rfl)
  refine ⟨⟨fd, F, ?_, B⟩, glo⟩
  refine fnP_ok F sc__lot_reason (by decide) ?_
  intro cdv A outer s H E hgd hr
  exact ⟨_, (pss_cons (ps_if (PW.pt (pw_or (pt_not (pt_truth (pe_cal c_is_lot hgd hr (by decide) (passEN (L2N.takes_of rfl rfl rfl rfl)) (pa_cons (pv 0) (pa_cons (pv 3) pa_nil))) fun _ => rfl)) (pw_or1 (PW.pt (pw_and (pt_cmpR (op_eqG (room65 hr)) (pv 2) pe_str (nomark _)) (pw_and1 (pt_cmpR (op_eqG (room65 hr)) (pv 3) (pe_tup pa_nil) (nomark _)))))))) (pss_one (ps_ret pe_str)) pss_nil)
  (pss_cons (ps_set (i := 4) sc__lot_reason.nd rfl (Or.inl rfl) (pe_cal c_is_feared hgd hr (by decide) (passEN (L2N.takes_of rfl rfl rfl rfl)) (pa_cons (pv 0) (pa_cons (pv 1) (pa_cons (pv 3) pa_nil)))))
  (pss_one (ps_ret (pe_ifExp (pt_cmpR (op_eqG (room65 hr)) (pv 4) (pe_cmpR (op_eqG (room65 hr)) (pv 2) pe_str (nomark _)) (nomark _)) pe_str pe_non))))),
  (ss_seq (ss_if (st_or (st_not (st_tru (se_callD (sa_cons se_var (sa_cons se_var sa_nil))))) (st_and (st_test (se_2 o_eq se_var se_str)) (st_test (se_2 o_eq se_var (se_tup sa_nil))))) (ss_ret se_str) ss_next)
  (ss_seq (ss_asg (se_callD (sa_cons se_var (sa_cons se_var (sa_cons se_var sa_nil)))) sg_name)
  (ss_ret (se_if (st_test (se_2 o_eq se_var (se_2 o_eq se_var se_str))) se_str se_non))))⟩
theorem cal_pair_of (T : TX K mg) : CalG P w K mg base 1 d_pair_of [("one" : Str), ("other" : Str)] (spP K mg M_pair_of) := by
  have f_max : mg "max" = none := T.free "max" (mem_at 73 rfl)
  have f_min : mg "min" = none := T.free "min" (mem_at 74 rfl)
  obtain ⟨fd, F0⟩ := T.says.def_ (d := d_pair_of) (mem_at 41 rfl)
  have F : FunD K d_pair_of.name d_pair_of.qual d_pair_of.params d_pair_of.body d_pair_of.scope [] [] (He.fAd K d_pair_of.at_) fd := F0
  have B : Binds K fd [("one" : Str), ("other" : Str)] [] := F.bindsN fun _ _ _ _ _ _ us hl => match us, hl with | [_, _], _ => rfl
  have glo : mg d_pair_of.name = some (.ref (He.fAd K d_pair_of.at_)) := T.glo "pair_of" (mem_at 41 rfl)
  refine ⟨⟨fd, F, ?_, B⟩, glo⟩
  refine fnP_ok F sc_pair_of (by decide) ?_
  intro cdv A outer s H E hgd hr
  exact ⟨_, (pss_one (ps_ret (pe_tup (pa_cons (pe_callB (call_min2 (by rfl)) (by rfl) (by exact f_min) (by decide +kernel) (pa_cons (pv 0) (pa_cons (pv 1) pa_nil))) (pa_cons (pe_callB (call_max2 (by rfl)) (by rfl) (by exact f_max) (by decide +kernel) (pa_cons (pv 0) (pa_cons (pv 1) pa_nil))) pa_nil))))),
  (ss_ret (se_tup (sa_cons (se_n o_min2 (sa_cons se_var (sa_cons se_var sa_nil))) (sa_cons (se_n o_max2 (sa_cons se_var (sa_cons se_var sa_nil))) sa_nil))))⟩
theorem cal__wire_reason (T : TX K mg) : CalG P w K mg base 2 d__wire_reason [("many" : Str), ("net" : Str), ("name" : Str), ("one" : Str), ("other" : Str)] (spP K mg M__wire_reason) := by
  have c_pair_of : CalG P w K mg base 1 d_pair_of [("one" : Str), ("other" : Str)] (spP K mg M_pair_of) := cal_pair_of T
  obtain ⟨fd, F0⟩ := T.says.def_ (d := d__wire_reason) (mem_at 42 rfl)
  have F : FunD K d__wire_reason.name d__wire_reason.qual d__wire_reason.params d__wire_reason.body d__wire_reason.scope [] [] (He.fAd K d__wire_reason.at_) fd := F0
  have B : Binds K fd [("many" : Str), ("net" : Str), ("name" : Str), ("one" : Str), ("other" : Str)] [] := F.bindsN fun _ _ _ _ _ _ us hl => match us, hl with | [_, _, _, _, _], _ => rfl
  have glo : mg d__wire_reason.name = some (.ref (He.fAd K d__wire_reason.at_)) := T.glo "_wire_reason" (mem_at 42 rfl)
  refine ⟨⟨fd, F, ?_, B⟩, glo⟩
  refine fnP_ok F sc__wire_reason (by decide) ?_
  intro cdv A outer s H E hgd hr
  exact ⟨_, (pss_cons (ps_if (PW.pt (pw_or (pt_cmpR (op_geG (room65 hr)) (pv 3) (pv 0) (nomark _)) (pw_or (pt_cmpR (op_geG (room65 hr)) (pv 4) (pv 0) (nomark _)) (pw_or1 (pt_cmpR (op_eqG (room65 hr)) (pv 3) (pv 4) (nomark _)))))) (pss_one (ps_ret pe_str)) pss_nil)
  (pss_cons (ps_set (i := 5) sc__wire_reason.nd rfl (Or.inl rfl) (pe_cmpR (op_inG (room65 hr)) (pe_cal c_pair_of hgd hr (by decide) (passEN (L2N.takes_of rfl rfl rfl rfl)) (pa_cons (pv 3) (pa_cons (pv 4) pa_nil))) (pv 1) (by with_unfolding_all rfl)))
  (pss_one (ps_ret (pe_ifExp (pt_cmpR (op_eqG (room65 hr)) (pv 5) (pe_cmpR (op_eqG (room65 hr)) (pv 2) pe_str (nomark _)) (nomark _)) pe_str pe_non))))),
  (ss_seq (ss_if (st_or (st_test (se_2 o_ge se_var se_var)) (st_or (st_test (se_2 o_ge se_var se_var)) (st_test (se_2 o_eq se_var se_var)))) (ss_ret se_str) ss_next)
  (ss_seq (ss_asg (se_2 o_in (se_callD (sa_cons se_var (sa_cons se_var sa_nil))) se_var) sg_name)
  (ss_ret (se_if (st_test (se_2 o_eq se_var (se_2 o_eq se_var se_str))) se_str se_non))))⟩
theorem cal__leave_reason (T : TX K mg) : CalG P w K mg base 1 d__leave_reason [("sizes" : Str), ("house" : Str), ("choice" : Str)] (spP K mg M__leave_reason) := by
  have f_len : mg "len" = none := T.free "len" (mem_at 71 rfl)
  obtain ⟨fd, F0⟩ := T.says.def_ (d := d__leave_reason) (mem_at 43 rfl)
  have F : FunD K d__leave_reason.name d__leave_reason.qual d__leave_reason.params d__leave_reason.body d__leave_reason.scope [] [] (He.fAd K d__leave_reason.at_) fd := F0
  have B : Binds K fd [("sizes" : Str), ("house" : Str), ("choice" : Str)] [] := F.bindsN fun _ _ _ _ _ _ us hl => match us, hl with | [_, _, _], _ => rfl
  have glo : mg d__leave_reason.name = some (.ref (He.fAd K d__leave_reason.at_)) := T.glo "_leave_reason" (mem_at 43 rfl)
  refine ⟨⟨fd, F, ?_, B⟩, glo⟩
  refine fnP_ok F sc__leave_reason (by decide) ?_
  intro cdv A outer s H E hgd hr
  exact ⟨_, (pss_cons (ps_if (pt_cmpR (op_geG (room65 hr)) (pv 1) (pe_callB call_len_seq (by rfl) (by exact f_len) (by decide +kernel) (pa_cons (pv 0) pa_nil)) (nomark _)) (pss_one (ps_ret pe_str)) pss_nil)
  (pss_cons (ps_if (pt_cmpR (op_geG (room65 hr)) (pv 2) (pe_ix ix_seq (pv 0) (pv 1) fun _ _ => rfl) (nomark _)) (pss_one (ps_ret pe_str)) pss_nil)
  (pss_one (ps_ret (pe_ifExp (pt_cmpR (op_eqG (room65 hr)) (pe_callB call_len_seq (by rfl) (by exact f_len) (by decide +kernel) (pa_cons (pv 0) pa_nil)) pe_int (nomark _)) pe_str pe_non))))),
  (ss_seq (ss_if (st_test (se_2 o_ge se_var (se_n o_len (sa_cons se_var sa_nil)))) (ss_ret se_str) ss_next)
  (ss_seq (ss_if (st_test (se_2 o_ge se_var (se_2 o_ix se_var se_var))) (ss_ret se_str) ss_next)
  (ss_ret (se_if (st_test (se_2 o_eq (se_n o_len (sa_cons se_var sa_nil)) se_int)) se_str se_non))))⟩
theorem cal_setting_fits (T : TX K mg) : CalG P w K mg base 3 d_setting_fits [("sizes" : Str), ("thing" : Str)] (spP K mg M_setting_fits) := by
  have c_number_fits : CalG P w K mg base 2 d_number_fits [("thing" : Str)] (spP K mg M_number_fits) := cal_number_fits T
  have f_all : mg "all" = none := T.free "all" (mem_at 66 rfl)
  have f_isinstance : mg "isinstance" = none := T.free "isinstance" (mem_at 70 rfl)
  have f_len : mg "len" = none := T.free "len" (mem_at 71 rfl)
  have f_tuple : mg "tuple" = none := T.free "tuple" (mem_at 78 rfl)
  have f_zip : mg "zip" = none := T.free "zip" (mem_at 79 rfl)
  obtain ⟨fd, F0⟩ := T.says.def_ (d := d_setting_fits) (mem_at 44 rfl)
  have F : FunD K d_setting_fits.name d_setting_fits.qual d_setting_fits.params d_setting_fits.body d_setting_fits.scope [] [] (He.fAd K d_setting_fits.at_) fd := F0
  have B : Binds K fd [("sizes" : Str), ("thing" : Str)] [] := F.bindsN fun _ _ _ _ _ _ us hl => match us, hl with | [_, _], _ => rfl
  have glo : mg d_setting_fits.name = some (.ref (He.fAd K d_setting_fits.at_)) := T.glo "setting_fits" (mem_at 44 rfl)
  refine ⟨⟨fd, F, ?_, B⟩, glo⟩
  refine fnP_ok F sc_setting_fits (by decide) ?_
  intro cdv A outer s H E hgd hr
  exact ⟨_, (pss_cons (ps_if (PW.pt (pw_or (pt_not (pt_truth (pe_callB call_isiM (by rfl) (by exact f_isinstance) boot_isinstance (pa_cons (pv 1) (pa_cons (pe_bltn (v := .ty (Ty.nm .tup)) (by rfl) (by exact f_tuple) (by decide +kernel) rfl) pa_nil))) fun _ => rfl)) (pw_or1 (pt_cmpR (op_neG (room65 hr)) (pe_callB call_len_seq (by rfl) (by exact f_len) (by decide +kernel) (pa_cons (pv 1) pa_nil)) (pe_callB call_len_seq (by rfl) (by exact f_len) (by decide +kernel) (pa_cons (pv 0) pa_nil)) (nomark _))))) (pss_one (ps_ret pe_bl)) pss_nil)
  (pss_one (ps_ret (pe_callB (cr_all (by rfl)) (by rfl) (by exact f_all) (by decide +kernel) (pa_cons (pe_lc (own := [(("choice" : Str), 2), (("size" : Str), 3)]) (g := gTup K 2 (gCons (gName 2) (gCons (gName 3) gNil))) rfl sc_setting_fits.nd (pi_zipB (by rfl) (by exact f_zip) (pa_cons (pv 1) (pa_cons (pv 0) pa_nil))) (blkOk_by (own := [(("choice" : Str), 2), (("size" : Str), 3)]) (N := N_setting_fits) (sc := d_setting_fits.scope) (by decide +kernel)) (fun _ _ _ _ _ => pg_tup rfl (pgs_cons (pg_name (i := 2) sc_setting_fits.nd rfl (by first | exact Or.inl rfl | exact Or.inr rfl)) (pgs_cons (pg_name (i := 3) sc_setting_fits.nd rfl (by first | exact Or.inl rfl | exact Or.inr rfl)) pgs_nil))) (fun _ _ _ _ _ => pts_nil) (fun _ _ _ _ _ => (pe_and (pe_cal c_number_fits hgd hr (by decide) passF (pa_cons (pv 2) pa_nil)) (pe_one (pe_cmpR (op_ltG (room65 hr)) (pv 2) (pv 3) (nomark _)))))) pa_nil))))),
  (ss_seq (ss_if (st_or (st_not (st_tru (se_isi .tup se_var))) (st_test (se_2 o_ne (se_n o_len (sa_cons se_var sa_nil)) (se_n o_len (sa_cons se_var sa_nil))))) (ss_ret se_bl) ss_next)
  (ss_ret (se_n o_all (sa_cons (se_l (sl_lc (si_zipB (sa_cons se_var (sa_cons se_var sa_nil))) (by decide) (sg_tup rfl (sgs_cons (sgs_cons sgs_nil))) st_yes (se_and (se_callD (sa_cons se_var sa_nil)) (se_2 o_lt se_var se_var)))) sa_nil))))⟩
theorem cal_is_setting (T : TX K mg) : CalG P w K mg base 4 d_is_setting [("sizes" : Str), ("thing" : Str)] (spP K mg M_is_setting) := by
  have c_a_want : CalG P w K mg base 3 d_a_want [("good" : Str), ("word" : Str)] (spP K mg M_a_want) := cal_a_want T
  have c_setting_fits : CalG P w K mg base 3 d_setting_fits [("sizes" : Str), ("thing" : Str)] (spP K mg M_setting_fits) := cal_setting_fits T
  have c_sizes_fit : CalG P w K mg base 3 d_sizes_fit [("thing" : Str)] (spP K mg M_sizes_fit) := cal_sizes_fit T
  obtain ⟨fd, F0⟩ := T.says.def_ (d := d_is_setting) (mem_at 45 rfl)
  have F : FunD K d_is_setting.name d_is_setting.qual d_is_setting.params d_is_setting.body d_is_setting.scope [] [] (He.fAd K d_is_setting.at_) fd := F0
  have B : Binds K fd [("sizes" : Str), ("thing" : Str)] [] := F.bindsN fun _ _ _ _ _ _ us hl => match us, hl with | [_, _], _ => rfl
  have glo : mg d_is_setting.name = some (.ref (He.fAd K d_is_setting.at_)) := T.glo "is_setting" (mem_at 45 rfl)
  refine ⟨⟨fd, F, ?_, B⟩, glo⟩
  refine fnP_ok F sc_is_setting (by decide) ?_
  intro cdv A outer s H E hgd hr
  exact ⟨_, (pss_cons (ps_expr (pe_cal c_a_want hgd hr (by decide) (passEN (L2N.takes_of rfl rfl rfl rfl)) (pa_cons (pe_cal c_sizes_fit hgd hr (by decide) (passEN (L2N.takes_of rfl rfl rfl rfl)) (pa_cons (pv 0) pa_nil)) (pa_cons pe_str pa_nil))))
  (pss_one (ps_ret (pe_cal c_setting_fits hgd hr (by decide) (passEN (L2N.takes_of rfl rfl rfl rfl)) (pa_cons (pv 0) (pa_cons (pv 1) pa_nil)))))),
  (ss_seq (ss_drop (se_callD (sa_cons (se_callD (sa_cons se_var sa_nil)) (sa_cons se_str sa_nil))))
  (ss_ret (se_callD (sa_cons se_var (sa_cons se_var sa_nil)))))⟩
theorem cal_place_by (T : TX K mg) : CalG P w K mg base 1 d_place_by [("sizes" : Str), ("setting" : Str)] (spP K mg M_place_by) := by
  have f_len : mg "len" = none := T.free "len" (mem_at 71 rfl)
  have f_range : mg "range" = none := T.free "range" (mem_at 75 rfl)
  obtain ⟨fd, F0⟩ := T.says.def_ (d := d_place_by) (mem_at 46 rfl)
  have F : FunD K d_place_by.name d_place_by.qual d_place_by.params d_place_by.body d_place_by.scope [] [] (He.fAd K d_place_by.at_) fd := F0
  have B : Binds K fd [("sizes" : Str), ("setting" : Str)] [] := F.bindsN fun _ _ _ _ _ _ us hl => match us, hl with | [_, _], _ => rfl
  have glo : mg d_place_by.name = some (.ref (He.fAd K d_place_by.at_)) := T.glo "place_by" (mem_at 46 rfl)
  refine ⟨⟨fd, F, ?_, B⟩, glo⟩
  refine fnP_ok F sc_place_by (by decide) ?_
  intro cdv A outer s H E hgd hr
  exact ⟨_, (pss_cons (ps_set (i := 2) sc_place_by.nd rfl (Or.inl rfl) pe_int)
  (pss_cons (ps_for (passes_of rfl) rfl (pi_range1 (by rfl) (by exact f_range) (pa_cons (pe_callB call_len_seq (by rfl) (by exact f_len) (by decide +kernel) (pa_cons (pv 0) pa_nil)) pa_nil)) (pg_name (i := 3) sc_place_by.nd rfl (Or.inl rfl)) (pss_one (ps_set (i := 2) sc_place_by.nd rfl (Or.inl rfl) (pe_op op_add3 (pe_op op_mulX (pv 2) (pe_ix ix_seq (pv 0) (pv 3) fun _ _ => rfl)) (pe_ix ix_seq (pv 1) (pv 3) fun _ _ => rfl)))))
  (pss_one (ps_ret (pv 2))))),
  (ss_seq (ss_asg se_int sg_name)
  (ss_seq (ss_for (si_rng1 (sa_cons (se_n o_len (sa_cons se_var sa_nil)) sa_nil)) sg_name (ss_asg (se_2 o_add (se_2 o_mul se_var (se_2 o_ix se_var se_var)) (se_2 o_ix se_var se_var)) sg_name))
  (ss_ret se_var)))⟩
theorem cal_answer_at (T : TX K mg) : CalG P w K mg base 6 d_answer_at [("sizes" : Str), ("table" : Str), ("setting" : Str)] (spP K mg M_answer_at) := by
  have c_a_want : CalG P w K mg base 3 d_a_want [("good" : Str), ("word" : Str)] (spP K mg M_a_want) := cal_a_want T
  have c_is_sizes : CalG P w K mg base 4 d_is_sizes [("thing" : Str)] (spP K mg M_is_sizes) := cal_is_sizes T
  have c_is_table : CalG P w K mg base 5 d_is_table [("sizes" : Str), ("thing" : Str)] (spP K mg M_is_table) := cal_is_table T
  have c_is_setting : CalG P w K mg base 4 d_is_setting [("sizes" : Str), ("thing" : Str)] (spP K mg M_is_setting) := cal_is_setting T
  have c_place_by : CalG P w K mg base 1 d_place_by [("sizes" : Str), ("setting" : Str)] (spP K mg M_place_by) := cal_place_by T
  obtain ⟨fd, F0⟩ := T.says.def_ (d := d_answer_at) (mem_at 47 rfl)
  have F : FunD K d_answer_at.name d_answer_at.qual d_answer_at.params d_answer_at.body d_answer_at.scope [] [] (He.fAd K d_answer_at.at_) fd := F0
  have B : Binds K fd [("sizes" : Str), ("table" : Str), ("setting" : Str)] [] := F.bindsN fun _ _ _ _ _ _ us hl => match us, hl with | [_, _, _], _ => rfl
  have glo : mg d_answer_at.name = some (.ref (He.fAd K d_answer_at.at_)) := T.glo "answer_at" (mem_at 47 rfl)
  refine ⟨⟨fd, F, ?_, B⟩, glo⟩
  refine fnP_ok F sc_answer_at (by decide) ?_
  intro cdv A outer s H E hgd hr
  exact ⟨_, (pss_cons (ps_expr (pe_cal c_a_want hgd hr (by decide) (passEN (L2N.takes_of rfl rfl rfl rfl)) (pa_cons (pe_cal c_is_sizes hgd hr (by decide) (passEN (L2N.takes_of rfl rfl rfl rfl)) (pa_cons (pv 0) pa_nil)) (pa_cons pe_str pa_nil))))
  (pss_cons (ps_expr (pe_cal c_a_want hgd hr (by decide) (passEN (L2N.takes_of rfl rfl rfl rfl)) (pa_cons (pe_cal c_is_table hgd hr (by decide) (passEN (L2N.takes_of rfl rfl rfl rfl)) (pa_cons (pv 0) (pa_cons (pv 1) pa_nil))) (pa_cons pe_str pa_nil))))
  (pss_cons (ps_expr (pe_cal c_a_want hgd hr (by decide) (passEN (L2N.takes_of rfl rfl rfl rfl)) (pa_cons (pe_cal c_is_setting hgd hr (by decide) (passEN (L2N.takes_of rfl rfl rfl rfl)) (pa_cons (pv 0) (pa_cons (pv 2) pa_nil))) (pa_cons pe_str pa_nil))))
  (pss_one (ps_ret (pe_ix ix_seq (pv 1) (pe_cal c_place_by hgd hr (by decide) (passEN (L2N.takes_of rfl rfl rfl rfl)) (pa_cons (pv 0) (pa_cons (pv 2) pa_nil))) fun _ _ => rfl)))))),
  (ss_seq (ss_drop (se_callD (sa_cons (se_callD (sa_cons se_var sa_nil)) (sa_cons se_str sa_nil))))
  (ss_seq (ss_drop (se_callD (sa_cons (se_callD (sa_cons se_var (sa_cons se_var sa_nil))) (sa_cons se_str sa_nil))))
  (ss_seq (ss_drop (se_callD (sa_cons (se_callD (sa_cons se_var (sa_cons se_var sa_nil))) (sa_cons se_str sa_nil))))
  (ss_ret (se_2 o_ix se_var (se_callD (sa_cons se_var (sa_cons se_var sa_nil))))))))⟩
theorem cal_reason_for (T : TX K mg) : CalG P w K mg base 9 d_reason_for [("state" : Str), ("event" : Str)] (spP K mg M_reason_for) := by
  have c__lot_reason : CalG P w K mg base 8 d__lot_reason [("many" : Str), ("fears" : Str), ("name" : Str), ("lot" : Str)] (spP K mg M__lot_reason) := cal__lot_reason T
  have c__wire_reason : CalG P w K mg base 2 d__wire_reason [("many" : Str), ("net" : Str), ("name" : Str), ("one" : Str), ("other" : Str)] (spP K mg M__wire_reason) := cal__wire_reason T
  have c__leave_reason : CalG P w K mg base 1 d__leave_reason [("sizes" : Str), ("house" : Str), ("choice" : Str)] (spP K mg M__leave_reason) := cal__leave_reason T
  have c_is_setting : CalG P w K mg base 4 d_is_setting [("sizes" : Str), ("thing" : Str)] (spP K mg M_is_setting) := cal_is_setting T
  have c_answer_at : CalG P w K mg base 6 d_answer_at [("sizes" : Str), ("table" : Str), ("setting" : Str)] (spP K mg M_answer_at) := cal_answer_at T
  have f_len : mg "len" = none := T.free "len" (mem_at 71 rfl)
  obtain ⟨fd, F0⟩ := T.says.def_ (d := d_reason_for) (mem_at 48 rfl)
  have F : FunD K d_reason_for.name d_reason_for.qual d_reason_for.params d_reason_for.body d_reason_for.scope [] [] (He.fAd K d_reason_for.at_) fd := F0
  have B : Binds K fd [("state" : Str), ("event" : Str)] [] := F.bindsN fun _ _ _ _ _ _ us hl => match us, hl with | [_, _], _ => rfl
  have glo : mg d_reason_for.name = some (.ref (He.fAd K d_reason_for.at_)) := T.glo "reason_for" (mem_at 48 rfl)
  refine ⟨⟨fd, F, ?_, B⟩, glo⟩
  refine fnP_ok F sc_reason_for (by decide) ?_
  intro cdv A outer s H E hgd hr
  exact ⟨_, (pss_cons (ps_asg (pv 0) (pg_tup rfl (pgs_cons (pg_tup rfl (pgs_cons (pg_name (i := 5) sc_reason_for.nd rfl (Or.inl rfl)) (pgs_cons (pg_name (i := 6) sc_reason_for.nd rfl (Or.inl rfl)) pgs_nil))) (pgs_cons (pg_name (i := 3) sc_reason_for.nd rfl (Or.inl rfl)) (pgs_cons (pg_name (i := 4) sc_reason_for.nd rfl (Or.inl rfl)) pgs_nil)))))
  (pss_cons (ps_set (i := 2) sc_reason_for.nd rfl (Or.inl rfl) (pe_ix ix_seq (pv 1) pe_int fun _ _ => rfl))
  (pss_cons (ps_if (PW.pt (pw_or (pt_cmpR (op_eqG (room65 hr)) (pv 2) pe_str (nomark _)) (pw_or1 (pt_cmpR (op_eqG (room65 hr)) (pv 2) pe_str (nomark _))))) (pss_one (ps_ret (pe_cal c__lot_reason hgd hr (by decide) (passEN (L2N.takes_of rfl rfl rfl rfl)) (pa_cons (pe_callB call_len_seq (by rfl) (by exact f_len) (by decide +kernel) (pa_cons (pv 5) pa_nil)) (pa_cons (pv 6) (pa_cons (pv 2) (pa_cons (pe_ix ix_seq (pv 1) pe_int fun _ _ => rfl) pa_nil))))))) pss_nil)
  (pss_cons (ps_if (pt_cmpR (op_eqG (room65 hr)) (pv 2) pe_str (nomark _)) (pss_cons (ps_if (pt_not (pt_truth (pe_cal c_is_setting hgd hr (by decide) (passEN (L2N.takes_of rfl rfl rfl rfl)) (pa_cons (pv 5) (pa_cons (pe_ix ix_seq (pv 1) pe_int fun _ _ => rfl) pa_nil))) fun _ => rfl)) (pss_one (ps_ret pe_str)) pss_nil)
  (pss_one (ps_ret (pe_ifExp (pt_cmpR (op_eqG (room65 hr)) (pe_cal c_answer_at hgd hr (by decide) (passEN (L2N.takes_of rfl rfl rfl rfl)) (pa_cons (pv 5) (pa_cons (pv 4) (pa_cons (pe_ix ix_seq (pv 1) pe_int fun _ _ => rfl) pa_nil)))) (pe_ix ix_seq (pv 1) pe_int fun _ _ => rfl) (nomark _)) pe_str pe_non)))) pss_nil)
  (pss_cons (ps_if (PW.pt (pw_or (pt_cmpR (op_eqG (room65 hr)) (pv 2) pe_str (nomark _)) (pw_or1 (pt_cmpR (op_eqG (room65 hr)) (pv 2) pe_str (nomark _))))) (pss_one (ps_ret (pe_cal c__wire_reason hgd hr (by decide) (passEN (L2N.takes_of rfl rfl rfl rfl)) (pa_cons (pe_callB call_len_seq (by rfl) (by exact f_len) (by decide +kernel) (pa_cons (pv 5) pa_nil)) (pa_cons (pv 3) (pa_cons (pv 2) (pa_cons (pe_ix ix_seq (pv 1) pe_int fun _ _ => rfl) (pa_cons (pe_ix ix_seq (pv 1) pe_int fun _ _ => rfl) pa_nil)))))))) pss_nil)
  (pss_cons (ps_if (pt_cmpR (op_eqG (room65 hr)) (pv 2) pe_str (nomark _)) (pss_one (ps_ret (pe_cal c__leave_reason hgd hr (by decide) (passEN (L2N.takes_of rfl rfl rfl rfl)) (pa_cons (pv 5) (pa_cons (pe_ix ix_seq (pv 1) pe_int fun _ _ => rfl) (pa_cons (pe_ix ix_seq (pv 1) pe_int fun _ _ => rfl) pa_nil)))))) pss_nil)
  (pss_one (ps_ret (pe_ifExp (pt_cmpR (op_geG (room65 hr)) (pe_callB call_len_seq (by rfl) (by exact f_len) (by decide +kernel) (pa_cons (pv 5) pa_nil)) (pe_gint (by rfl) (gi_MOST_HOUSES (K := K) (mg := mg) (w := w))) (nomark _)) pe_str pe_non))))))))),
  (ss_seq (ss_asg se_var (sgm_tup (sgm_cons (sgm_tup (sgm_cons sg_name (sgm_cons sg_name sgm_nil))) (sgm_cons sg_name (sgm_cons sg_name sgm_nil)))))
  (ss_seq (ss_asg (se_2 o_ix se_var se_int) sg_name)
  (ss_seq (ss_if (st_or (st_test (se_2 o_eq se_var se_str)) (st_test (se_2 o_eq se_var se_str))) (ss_ret (se_callD (sa_cons (se_n o_len (sa_cons se_var sa_nil)) (sa_cons se_var (sa_cons se_var (sa_cons (se_2 o_ix se_var se_int) sa_nil)))))) ss_next)
  (ss_seq (ss_if (st_test (se_2 o_eq se_var se_str)) (ss_seq (ss_if (st_not (st_tru (se_callD (sa_cons se_var (sa_cons (se_2 o_ix se_var se_int) sa_nil))))) (ss_ret se_str) ss_next)
  (ss_ret (se_if (st_test (se_2 o_eq (se_callD (sa_cons se_var (sa_cons se_var (sa_cons (se_2 o_ix se_var se_int) sa_nil)))) (se_2 o_ix se_var se_int))) se_str se_non))) ss_next)
  (ss_seq (ss_if (st_or (st_test (se_2 o_eq se_var se_str)) (st_test (se_2 o_eq se_var se_str))) (ss_ret (se_callD (sa_cons (se_n o_len (sa_cons se_var sa_nil)) (sa_cons se_var (sa_cons se_var (sa_cons (se_2 o_ix se_var se_int) (sa_cons (se_2 o_ix se_var se_int) sa_nil))))))) ss_next)
  (ss_seq (ss_if (st_test (se_2 o_eq se_var se_str)) (ss_ret (se_callD (sa_cons se_var (sa_cons (se_2 o_ix se_var se_int) (sa_cons (se_2 o_ix se_var se_int) sa_nil))))) ss_next)
  (ss_ret (se_if (st_test (se_2 o_ge (se_n o_len (sa_cons se_var sa_nil)) se_int)) se_str se_non))))))))⟩
theorem cal_LiveHouses___reason (T : TX K mg) : CalM P w K mg base 10 "LiveHouses" "_reason" d_LiveHouses___reason [("self" : Str), ("state" : Str), ("many" : Str), ("event" : Str)] (spP K mg M_LiveHouses___reason) := by
  have c_reason_for : CalG P w K mg base 9 d_reason_for [("state" : Str), ("event" : Str)] (spP K mg M_reason_for) := cal_reason_for T
  have c_is_event : CalG P w K mg base 6 d_is_event [("thing" : Str)] (spP K mg M_is_event) := cal_is_event T
  obtain ⟨fd, F0⟩ := T.says.def_ (d := d_LiveHouses___reason) (mem_at 49 rfl)
  have F : FunD K d_LiveHouses___reason.name d_LiveHouses___reason.qual d_LiveHouses___reason.params d_LiveHouses___reason.body d_LiveHouses___reason.scope [] [] (He.fAd K d_LiveHouses___reason.at_) fd := F0
  have B : Binds K fd [("self" : Str), ("state" : Str), ("many" : Str), ("event" : Str)] [] := F.bindsN fun _ _ _ _ _ _ us hl => match us, hl with | [_, _, _, _], _ => rfl
  refine ⟨⟨fd, F, ?_, B⟩, me_LiveHouses___reason T⟩
  refine fnP_ok F sc_LiveHouses___reason (by decide) ?_
  intro cdv A outer s H E hgd hr
  exact ⟨_, (pss_cons (ps_if (pt_not (pt_truth (pe_cal c_is_event hgd hr (by decide) (passEN (L2N.takes_of rfl rfl rfl rfl)) (pa_cons (pv 3) pa_nil)) fun _ => rfl)) (pss_one (ps_ret pe_str)) pss_nil)
  (pss_cons (ps_if (pt_cmpR (op_geG (room65 hr)) (pv 2) (pe_con (pv 0) (by rfl)) (nomark _)) (pss_one (ps_ret pe_str)) pss_nil)
  (pss_one (ps_ret (pe_cal c_reason_for hgd hr (by decide) (passEN (L2N.takes_of rfl rfl rfl rfl)) (pa_cons (pv 1) (pa_cons (pv 3) pa_nil))))))),
  (ss_seq (ss_if (st_not (st_tru (se_callD (sa_cons se_var sa_nil)))) (ss_ret se_str) ss_next)
  (ss_seq (ss_if (st_test (se_2 o_ge se_var (se_con (con_LiveHouses_MOST T).choose_spec se_var))) (ss_ret se_str) ss_next)
  (ss_ret (se_callD (sa_cons se_var (sa_cons se_var sa_nil))))))⟩
theorem cal_LiveHouses__barred (T : TX K mg) : CalM P w K mg base 11 "LiveHouses" "barred" d_LiveHouses__barred [("self" : Str), ("event" : Str)] (spP K mg M_LiveHouses__barred) := by
  have c_LiveHouses___reason : CalM P w K mg base 10 "LiveHouses" "_reason" d_LiveHouses___reason [("self" : Str), ("state" : Str), ("many" : Str), ("event" : Str)] (spP K mg M_LiveHouses___reason) := cal_LiveHouses___reason T
  have f_len : mg "len" = none := T.free "len" (mem_at 71 rfl)
  obtain ⟨fd, F0⟩ := T.says.def_ (d := d_LiveHouses__barred) (mem_at 50 rfl)
  have F : FunD K d_LiveHouses__barred.name d_LiveHouses__barred.qual d_LiveHouses__barred.params d_LiveHouses__barred.body d_LiveHouses__barred.scope [] [] (He.fAd K d_LiveHouses__barred.at_) fd := F0
  have B : Binds K fd [("self" : Str), ("event" : Str)] [] := F.bindsN fun _ _ _ _ _ _ us hl => match us, hl with | [_, _], _ => rfl
  refine ⟨⟨fd, F, ?_, B⟩, me_LiveHouses__barred T⟩
  refine fnP_ok F sc_LiveHouses__barred (by decide) ?_
  intro cdv A outer s H E hgd hr
  exact ⟨_, (pss_one (ps_ret (pe_methG c_LiveHouses___reason hgd hr (by decide) (passEN (L2N.takes_of rfl rfl rfl rfl)) (pv 0) (pa_cons (pe_fld (pv 0) (by rfl)) (pa_cons (pe_callB call_len_seq (by rfl) (by exact f_len) (by decide +kernel) (pa_cons (pe_fld (pv 0) (by rfl)) pa_nil)) (pa_cons (pv 1) pa_nil)))))),
  (ss_ret (se_meth se_var (sa_cons (se_fld (no_LiveHouses__state T) se_var) (sa_cons (se_n o_len (sa_cons (se_fld (no_LiveHouses__done T) se_var) sa_nil)) (sa_cons se_var sa_nil)))))⟩
theorem cal__law_reasons (T : TX K mg) : CalG P w K mg base 12 d__law_reasons [] (spP K mg M__law_reasons) := by
  have c_LiveHouses____init__ : CalI P w K mg base 9 "LiveHouses" d_LiveHouses____init__ [("self" : Str), ("ground" : Str), ("net" : Str), ("table" : Str)] (spV K mg "LiveHouses" M_LiveHouses____init__) := cal_LiveHouses____init__ T
  have c_LiveHouses__barred : CalM P w K mg base 11 "LiveHouses" "barred" d_LiveHouses__barred [("self" : Str), ("event" : Str)] (spP K mg M_LiveHouses__barred) := cal_LiveHouses__barred T
  obtain ⟨fd, F0⟩ := T.says.def_ (d := d__law_reasons) (mem_at 51 rfl)
  have F : FunD K d__law_reasons.name d__law_reasons.qual d__law_reasons.params d__law_reasons.body d__law_reasons.scope [] [] (He.fAd K d__law_reasons.at_) fd := F0
  have B : Binds K fd [] [] := F.bindsN fun _ _ _ _ _ _ us hl => match us, hl with | [], _ => rfl
  have glo : mg d__law_reasons.name = some (.ref (He.fAd K d__law_reasons.at_)) := T.glo "_law_reasons" (mem_at 51 rfl)
  refine ⟨⟨fd, F, ?_, B⟩, glo⟩
  show FnG P w K mg base _ _ _ _ _ (spP K mg (fnM 7 0 m__law_reasons))
  refine fnP_ok (N := N__law_reasons) (m := m__law_reasons) F sc__law_reasons (by decide) ?_
  intro cdv A outer s H E hgd hr
  exact ⟨_, (pss_cons (ps_set (i := 0) sc__law_reasons.nd rfl (Or.inl rfl) (pe_makeG c_LiveHouses____init__ hgd hr (by decide) (passEN (L2N.takes_of rfl rfl rfl rfl)) (pa_cons (pe_tup (pa_cons (pe_tup (pa_cons pe_int (pa_cons pe_int (pa_cons pe_int pa_nil)))) (pa_cons (pe_tup (pa_cons (pe_tup (pa_cons pe_int (pa_cons pe_int pa_nil))) (pa_cons (pe_tup (pa_cons pe_int pa_nil)) pa_nil))) pa_nil))) (pa_cons (pe_tup (pa_cons (pe_tup (pa_cons pe_int (pa_cons pe_int pa_nil))) pa_nil)) (pa_cons (pe_tup (pa_cons pe_int (pa_cons pe_int (pa_cons pe_int (pa_cons pe_int (pa_cons pe_int (pa_cons pe_int pa_nil))))))) pa_nil)))))
  (pss_cons (ps_set (i := 1) sc__law_reasons.nd rfl (Or.inl rfl) (pe_lst (pa_cons (pe_tup (pa_cons (pe_tup (pa_cons pe_str (pa_cons (pe_tup (pa_cons pe_int pa_nil)) pa_nil))) (pa_cons pe_str pa_nil))) (pa_cons (pe_tup (pa_cons (pe_tup (pa_cons pe_str (pa_cons (pe_tup pa_nil) pa_nil))) (pa_cons pe_str pa_nil))) (pa_cons (pe_tup (pa_cons (pe_tup (pa_cons pe_str (pa_cons (pe_tup (pa_cons pe_int (pa_cons pe_int pa_nil))) pa_nil))) (pa_cons pe_non pa_nil))) (pa_cons (pe_tup (pa_cons (pe_tup (pa_cons pe_str (pa_cons (pe_tup (pa_cons pe_int (pa_cons pe_int pa_nil))) pa_nil))) (pa_cons pe_str pa_nil))) pa_nil))))))
  (pss_cons (ps_set (i := 1) sc__law_reasons.nd rfl (Or.inl rfl) (pe_op op_add3 (pv 1) (pe_lst (pa_cons (pe_tup (pa_cons (pe_tup (pa_cons pe_str (pa_cons (pe_tup pa_nil) pa_nil))) (pa_cons pe_str pa_nil))) (pa_cons (pe_tup (pa_cons (pe_tup (pa_cons pe_str (pa_cons (pe_tup (pa_cons pe_int pa_nil)) pa_nil))) (pa_cons pe_str pa_nil))) (pa_cons (pe_tup (pa_cons (pe_tup (pa_cons pe_str (pa_cons (pe_tup (pa_cons pe_int (pa_cons pe_int pa_nil))) pa_nil))) (pa_cons pe_str pa_nil))) (pa_cons (pe_tup (pa_cons (pe_tup (pa_cons pe_str (pa_cons (pe_tup (pa_cons pe_int pa_nil)) pa_nil))) (pa_cons pe_non pa_nil))) pa_nil)))))))
  (pss_cons (ps_set (i := 1) sc__law_reasons.nd rfl (Or.inl rfl) (pe_op op_add3 (pv 1) (pe_lst (pa_cons (pe_tup (pa_cons (pe_tup (pa_cons pe_str (pa_cons (pe_tup (pa_cons pe_int (pa_cons pe_int (pa_cons pe_int pa_nil)))) (pa_cons pe_int pa_nil)))) (pa_cons pe_str pa_nil))) (pa_cons (pe_tup (pa_cons (pe_tup (pa_cons pe_str (pa_cons (pe_tup (pa_cons pe_int (pa_cons pe_int (pa_cons pe_int pa_nil)))) (pa_cons pe_int pa_nil)))) (pa_cons pe_non pa_nil))) (pa_cons (pe_tup (pa_cons (pe_tup (pa_cons pe_str (pa_cons (pe_tup (pa_cons pe_int (pa_cons pe_int (pa_cons pe_int pa_nil)))) (pa_cons pe_int pa_nil)))) (pa_cons pe_non pa_nil))) pa_nil))))))
  (pss_cons (ps_set (i := 1) sc__law_reasons.nd rfl (Or.inl rfl) (pe_op op_add3 (pv 1) (pe_lst (pa_cons (pe_tup (pa_cons (pe_tup (pa_cons pe_str (pa_cons (pe_tup (pa_cons pe_int (pa_cons pe_int (pa_cons pe_int pa_nil)))) (pa_cons pe_int pa_nil)))) (pa_cons pe_str pa_nil))) (pa_cons (pe_tup (pa_cons (pe_tup (pa_cons pe_str (pa_cons (pe_tup (pa_cons pe_int (pa_cons pe_int pa_nil))) (pa_cons pe_int pa_nil)))) (pa_cons pe_str pa_nil))) (pa_cons (pe_tup (pa_cons (pe_tup (pa_cons pe_str (pa_cons (pe_tup (pa_cons pe_int pa_nil)) pa_nil))) (pa_cons pe_non pa_nil))) pa_nil))))))
  (pss_cons (ps_set (i := 1) sc__law_reasons.nd rfl (Or.inl rfl) (pe_op op_add3 (pv 1) (pe_lst (pa_cons (pe_tup (pa_cons (pe_tup (pa_cons pe_str (pa_cons (pe_tup (pa_cons pe_int (pa_cons pe_int (pa_cons pe_int (pa_cons pe_int pa_nil))))) (pa_cons pe_int pa_nil)))) (pa_cons pe_str pa_nil))) (pa_cons (pe_tup (pa_cons (pe_tup (pa_cons pe_str (pa_cons (pe_tup (pa_cons pe_int (pa_cons pe_int (pa_cons pe_int pa_nil)))) (pa_cons pe_int pa_nil)))) (pa_cons pe_str pa_nil))) (pa_cons (pe_tup (pa_cons (pe_tup (pa_cons pe_str pa_nil)) (pa_cons pe_non pa_nil))) pa_nil))))))
  (pss_cons (ps_set (i := 1) sc__law_reasons.nd rfl (Or.inl rfl) (pe_op op_add3 (pv 1) (pe_lst (pa_cons (pe_tup (pa_cons (pe_tup (pa_cons pe_str (pa_cons pe_int (pa_cons pe_int pa_nil)))) (pa_cons pe_str pa_nil))) (pa_cons (pe_tup (pa_cons (pe_tup (pa_cons pe_str (pa_cons pe_int (pa_cons pe_int pa_nil)))) (pa_cons pe_str pa_nil))) (pa_cons (pe_tup (pa_cons (pe_tup (pa_cons pe_str (pa_cons pe_int (pa_cons pe_int pa_nil)))) (pa_cons pe_str pa_nil))) (pa_cons (pe_tup (pa_cons (pe_tup (pa_cons pe_str (pa_cons pe_int (pa_cons pe_int pa_nil)))) (pa_cons pe_str pa_nil))) pa_nil)))))))
  (pss_cons (ps_set (i := 1) sc__law_reasons.nd rfl (Or.inl rfl) (pe_op op_add3 (pv 1) (pe_lst (pa_cons (pe_tup (pa_cons (pe_tup (pa_cons pe_str (pa_cons pe_int (pa_cons pe_int pa_nil)))) (pa_cons pe_non pa_nil))) (pa_cons (pe_tup (pa_cons (pe_tup (pa_cons pe_str (pa_cons pe_int (pa_cons pe_int pa_nil)))) (pa_cons pe_non pa_nil))) (pa_cons (pe_tup (pa_cons (pe_tup (pa_cons pe_str (pa_cons pe_int (pa_cons pe_int pa_nil)))) (pa_cons pe_str pa_nil))) (pa_cons (pe_tup (pa_cons (pe_tup (pa_cons pe_str (pa_cons pe_int (pa_cons pe_int pa_nil)))) (pa_cons pe_str pa_nil))) pa_nil)))))))
  (pss_cons (ps_set (i := 1) sc__law_reasons.nd rfl (Or.inl rfl) (pe_op op_add3 (pv 1) (pe_lst (pa_cons (pe_tup (pa_cons (pe_tup (pa_cons pe_str (pa_cons pe_int (pa_cons pe_int pa_nil)))) (pa_cons pe_str pa_nil))) (pa_cons (pe_tup (pa_cons (pe_tup (pa_cons pe_str (pa_cons pe_int (pa_cons pe_int pa_nil)))) (pa_cons pe_str pa_nil))) (pa_cons (pe_tup (pa_cons (pe_tup (pa_cons pe_str (pa_cons pe_int (pa_cons pe_int pa_nil)))) (pa_cons pe_non pa_nil))) (pa_cons (pe_tup (pa_cons (pe_tup (pa_cons pe_str (pa_cons pe_int (pa_cons pe_int pa_nil)))) (pa_cons pe_str pa_nil))) pa_nil)))))))
  (pss_cons (ps_set (i := 1) sc__law_reasons.nd rfl (Or.inl rfl) (pe_op op_add3 (pv 1) (pe_lst (pa_cons (pe_tup (pa_cons (pe_tup (pa_cons pe_str (pa_cons pe_int (pa_cons pe_int pa_nil)))) (pa_cons pe_str pa_nil))) (pa_cons (pe_tup (pa_cons (pe_tup (pa_cons pe_str (pa_cons pe_int pa_nil))) (pa_cons pe_str pa_nil))) (pa_cons (pe_tup (pa_cons (pe_tup (pa_cons pe_str (pa_cons (pe_tup (pa_cons pe_int (pa_cons pe_int pa_nil))) pa_nil))) (pa_cons pe_str pa_nil))) (pa_cons (pe_tup (pa_cons pe_non (pa_cons pe_str pa_nil))) pa_nil)))))))
  (pss_cons (ps_for (passes_of rfl) rfl (pi_seq (pv 1)) (pg_name (i := 2) sc__law_reasons.nd rfl (Or.inl rfl)) (pss_one (ps_if (pt_cmpR (op_neG (room65 hr)) (pe_methG c_LiveHouses__barred hgd hr (by decide) (passEN (L2N.takes_of rfl rfl rfl rfl)) (pv 0) (pa_cons (pe_ix ix_seq (pv 2) pe_int fun _ _ => rfl) pa_nil)) (pe_ix ix_seq (pv 2) pe_int fun _ _ => rfl) (nomark _)) (pss_one (ps_ret pe_bl)) pss_nil)))
  (pss_cons (ps_set (i := 3) sc__law_reasons.nd rfl (Or.inr rfl) (pe_makeG c_LiveHouses____init__ hgd hr (by decide) (passEN (L2N.takes_of rfl rfl rfl rfl)) (pa_cons (pe_tup (pa_cons (pe_tup (pa_cons pe_int pa_nil)) (pa_cons (pe_tup (pa_cons (pe_tup (pa_cons pe_int pa_nil)) pa_nil)) pa_nil))) (pa_cons (pe_tup pa_nil) (pa_cons (pe_tup (pa_cons pe_int pa_nil)) pa_nil)))))
  (pss_cons (ps_setLcE (i := 4) (own := [(("_law_one" : Str), 6)]) (g := gName 6) rfl sc__law_reasons.nd rfl rfl (sw_true rfl rfl rfl (by decide +kernel)) rfl rfl (L2N.takes_of rfl rfl rfl rfl) (pi_seq (pe_lst (pa_cons (pe_tup (pa_cons pe_str (pa_cons pe_int (pa_cons pe_int pa_nil)))) (pa_cons (pe_tup (pa_cons pe_str (pa_cons pe_int (pa_cons pe_int pa_nil)))) (pa_cons (pe_tup (pa_cons pe_str (pa_cons pe_int (pa_cons pe_int pa_nil)))) (pa_cons (pe_tup (pa_cons pe_str (pa_cons (pe_tup (pa_cons pe_int pa_nil)) pa_nil))) (pa_cons (pe_tup (pa_cons pe_str (pa_cons (pe_tup (pa_cons pe_int pa_nil)) pa_nil))) pa_nil))))))) (blkOk_by (own := [(("_law_one" : Str), 6)]) (N := N__law_reasons) (sc := d__law_reasons.scope) (by decide +kernel)) (fun _ _ _ _ _ _ => pg_name (i := 6) sc__law_reasons.nd rfl (by first | exact Or.inl rfl | exact Or.inr rfl)) (fun _ _ _ _ _ _ => pts_nil) (fun _ _ _ _ _ _ pss => (pe_methG c_LiveHouses__barred hgd hr (by decide) pss (pv 3) (pa_cons (pv 6) pa_nil))))
  (pss_cons (ps_if (pt_cmpR (op_neG (room65 hr)) (pv 4) (pe_lst (pa_cons pe_str (pa_cons pe_str (pa_cons pe_str (pa_cons pe_non (pa_cons pe_str pa_nil)))))) (nomark _)) (pss_one (ps_ret pe_bl)) pss_nil)
  (pss_cons (ps_set (i := 5) sc__law_reasons.nd rfl (Or.inr rfl) (pe_makeG c_LiveHouses____init__ hgd hr (by decide) (passEN (L2N.takes_of rfl rfl rfl rfl)) (pa_cons (pe_tup (pa_cons (pe_tup (pa_cons pe_int (pa_cons pe_int (pa_cons pe_int (pa_cons pe_int (pa_cons pe_int (pa_cons pe_int pa_nil))))))) (pa_cons (pe_tup (pa_cons (pe_tup (pa_cons pe_int pa_nil)) pa_nil)) pa_nil))) (pa_cons (pe_tup pa_nil) (pa_cons (pe_tup (pa_cons pe_int pa_nil)) pa_nil)))))
  (pss_cons (ps_setLcE (i := 4) (own := [(("_law_one" : Str), 6)]) (g := gName 6) rfl sc__law_reasons.nd rfl rfl (sw_true rfl rfl rfl (by decide +kernel)) rfl rfl (L2N.takes_of rfl rfl rfl rfl) (pi_seq (pe_lst (pa_cons (pe_tup (pa_cons pe_str pa_nil)) (pa_cons (pe_tup (pa_cons pe_str (pa_cons pe_int (pa_cons pe_int pa_nil)))) (pa_cons (pe_tup (pa_cons pe_str (pa_cons pe_int pa_nil))) (pa_cons (pe_tup (pa_cons pe_str (pa_cons pe_int (pa_cons pe_int pa_nil)))) pa_nil)))))) (blkOk_by (own := [(("_law_one" : Str), 6)]) (N := N__law_reasons) (sc := d__law_reasons.scope) (by decide +kernel)) (fun _ _ _ _ _ _ => pg_name (i := 6) sc__law_reasons.nd rfl (by first | exact Or.inl rfl | exact Or.inr rfl)) (fun _ _ _ _ _ _ => pts_nil) (fun _ _ _ _ _ _ pss => (pe_methG c_LiveHouses__barred hgd hr (by decide) pss (pv 5) (pa_cons (pv 6) pa_nil))))
  (pss_one (ps_ret (pe_cmpR (op_eqG (room65 hr)) (pv 4) (pe_lst (pa_cons pe_str (pa_cons pe_non (pa_cons pe_str (pa_cons pe_str pa_nil))))) (nomark _)))))))))))))))))))),
  (ss_seq (ss_asg (se_make (ins_LiveHouses T) (sa_cons (se_tup (sa_cons (se_tup (sa_cons se_int (sa_cons se_int (sa_cons se_int sa_nil)))) (sa_cons (se_tup (sa_cons (se_tup (sa_cons se_int (sa_cons se_int sa_nil))) (sa_cons (se_tup (sa_cons se_int sa_nil)) sa_nil))) sa_nil))) (sa_cons (se_tup (sa_cons (se_tup (sa_cons se_int (sa_cons se_int sa_nil))) sa_nil)) (sa_cons (se_tup (sa_cons se_int (sa_cons se_int (sa_cons se_int (sa_cons se_int (sa_cons se_int (sa_cons se_int sa_nil))))))) sa_nil)))) sg_name)
  (ss_seq (ss_asg (se_l (sl_lst (sa_cons (se_tup (sa_cons (se_tup (sa_cons se_str (sa_cons (se_tup (sa_cons se_int sa_nil)) sa_nil))) (sa_cons se_str sa_nil))) (sa_cons (se_tup (sa_cons (se_tup (sa_cons se_str (sa_cons (se_tup sa_nil) sa_nil))) (sa_cons se_str sa_nil))) (sa_cons (se_tup (sa_cons (se_tup (sa_cons se_str (sa_cons (se_tup (sa_cons se_int (sa_cons se_int sa_nil))) sa_nil))) (sa_cons se_non sa_nil))) (sa_cons (se_tup (sa_cons (se_tup (sa_cons se_str (sa_cons (se_tup (sa_cons se_int (sa_cons se_int sa_nil))) sa_nil))) (sa_cons se_str sa_nil))) sa_nil)))))) sg_name)
  (ss_seq (ss_asg (se_2 o_add se_var (se_l (sl_lst (sa_cons (se_tup (sa_cons (se_tup (sa_cons se_str (sa_cons (se_tup sa_nil) sa_nil))) (sa_cons se_str sa_nil))) (sa_cons (se_tup (sa_cons (se_tup (sa_cons se_str (sa_cons (se_tup (sa_cons se_int sa_nil)) sa_nil))) (sa_cons se_str sa_nil))) (sa_cons (se_tup (sa_cons (se_tup (sa_cons se_str (sa_cons (se_tup (sa_cons se_int (sa_cons se_int sa_nil))) sa_nil))) (sa_cons se_str sa_nil))) (sa_cons (se_tup (sa_cons (se_tup (sa_cons se_str (sa_cons (se_tup (sa_cons se_int sa_nil)) sa_nil))) (sa_cons se_non sa_nil))) sa_nil))))))) sg_name)
  (ss_seq (ss_asg (se_2 o_add se_var (se_l (sl_lst (sa_cons (se_tup (sa_cons (se_tup (sa_cons se_str (sa_cons (se_tup (sa_cons se_int (sa_cons se_int (sa_cons se_int sa_nil)))) (sa_cons se_int sa_nil)))) (sa_cons se_str sa_nil))) (sa_cons (se_tup (sa_cons (se_tup (sa_cons se_str (sa_cons (se_tup (sa_cons se_int (sa_cons se_int (sa_cons se_int sa_nil)))) (sa_cons se_int sa_nil)))) (sa_cons se_non sa_nil))) (sa_cons (se_tup (sa_cons (se_tup (sa_cons se_str (sa_cons (se_tup (sa_cons se_int (sa_cons se_int (sa_cons se_int sa_nil)))) (sa_cons se_int sa_nil)))) (sa_cons se_non sa_nil))) sa_nil)))))) sg_name)
  (ss_seq (ss_asg (se_2 o_add se_var (se_l (sl_lst (sa_cons (se_tup (sa_cons (se_tup (sa_cons se_str (sa_cons (se_tup (sa_cons se_int (sa_cons se_int (sa_cons se_int sa_nil)))) (sa_cons se_int sa_nil)))) (sa_cons se_str sa_nil))) (sa_cons (se_tup (sa_cons (se_tup (sa_cons se_str (sa_cons (se_tup (sa_cons se_int (sa_cons se_int sa_nil))) (sa_cons se_int sa_nil)))) (sa_cons se_str sa_nil))) (sa_cons (se_tup (sa_cons (se_tup (sa_cons se_str (sa_cons (se_tup (sa_cons se_int sa_nil)) sa_nil))) (sa_cons se_non sa_nil))) sa_nil)))))) sg_name)
  (ss_seq (ss_asg (se_2 o_add se_var (se_l (sl_lst (sa_cons (se_tup (sa_cons (se_tup (sa_cons se_str (sa_cons (se_tup (sa_cons se_int (sa_cons se_int (sa_cons se_int (sa_cons se_int sa_nil))))) (sa_cons se_int sa_nil)))) (sa_cons se_str sa_nil))) (sa_cons (se_tup (sa_cons (se_tup (sa_cons se_str (sa_cons (se_tup (sa_cons se_int (sa_cons se_int (sa_cons se_int sa_nil)))) (sa_cons se_int sa_nil)))) (sa_cons se_str sa_nil))) (sa_cons (se_tup (sa_cons (se_tup (sa_cons se_str sa_nil)) (sa_cons se_non sa_nil))) sa_nil)))))) sg_name)
  (ss_seq (ss_asg (se_2 o_add se_var (se_l (sl_lst (sa_cons (se_tup (sa_cons (se_tup (sa_cons se_str (sa_cons se_int (sa_cons se_int sa_nil)))) (sa_cons se_str sa_nil))) (sa_cons (se_tup (sa_cons (se_tup (sa_cons se_str (sa_cons se_int (sa_cons se_int sa_nil)))) (sa_cons se_str sa_nil))) (sa_cons (se_tup (sa_cons (se_tup (sa_cons se_str (sa_cons se_int (sa_cons se_int sa_nil)))) (sa_cons se_str sa_nil))) (sa_cons (se_tup (sa_cons (se_tup (sa_cons se_str (sa_cons se_int (sa_cons se_int sa_nil)))) (sa_cons se_str sa_nil))) sa_nil))))))) sg_name)
  (ss_seq (ss_asg (se_2 o_add se_var (se_l (sl_lst (sa_cons (se_tup (sa_cons (se_tup (sa_cons se_str (sa_cons se_int (sa_cons se_int sa_nil)))) (sa_cons se_non sa_nil))) (sa_cons (se_tup (sa_cons (se_tup (sa_cons se_str (sa_cons se_int (sa_cons se_int sa_nil)))) (sa_cons se_non sa_nil))) (sa_cons (se_tup (sa_cons (se_tup (sa_cons se_str (sa_cons se_int (sa_cons se_int sa_nil)))) (sa_cons se_str sa_nil))) (sa_cons (se_tup (sa_cons (se_tup (sa_cons se_str (sa_cons se_int (sa_cons se_int sa_nil)))) (sa_cons se_str sa_nil))) sa_nil))))))) sg_name)
  (ss_seq (ss_asg (se_2 o_add se_var (se_l (sl_lst (sa_cons (se_tup (sa_cons (se_tup (sa_cons se_str (sa_cons se_int (sa_cons se_int sa_nil)))) (sa_cons se_str sa_nil))) (sa_cons (se_tup (sa_cons (se_tup (sa_cons se_str (sa_cons se_int (sa_cons se_int sa_nil)))) (sa_cons se_str sa_nil))) (sa_cons (se_tup (sa_cons (se_tup (sa_cons se_str (sa_cons se_int (sa_cons se_int sa_nil)))) (sa_cons se_non sa_nil))) (sa_cons (se_tup (sa_cons (se_tup (sa_cons se_str (sa_cons se_int (sa_cons se_int sa_nil)))) (sa_cons se_str sa_nil))) sa_nil))))))) sg_name)
  (ss_seq (ss_asg (se_2 o_add se_var (se_l (sl_lst (sa_cons (se_tup (sa_cons (se_tup (sa_cons se_str (sa_cons se_int (sa_cons se_int sa_nil)))) (sa_cons se_str sa_nil))) (sa_cons (se_tup (sa_cons (se_tup (sa_cons se_str (sa_cons se_int sa_nil))) (sa_cons se_str sa_nil))) (sa_cons (se_tup (sa_cons (se_tup (sa_cons se_str (sa_cons (se_tup (sa_cons se_int (sa_cons se_int sa_nil))) sa_nil))) (sa_cons se_str sa_nil))) (sa_cons (se_tup (sa_cons se_non (sa_cons se_str sa_nil))) sa_nil))))))) sg_name)
  (ss_seq (ss_for (si_seq se_var) sg_name (ss_if (st_test (se_2 o_ne (se_meth se_var (sa_cons (se_2 o_ix se_var se_int) sa_nil)) (se_2 o_ix se_var se_int))) (ss_ret se_bl) ss_next))
  (ss_seq (ss_asg (se_make (ins_LiveHouses T) (sa_cons (se_tup (sa_cons (se_tup (sa_cons se_int sa_nil)) (sa_cons (se_tup (sa_cons (se_tup (sa_cons se_int sa_nil)) sa_nil)) sa_nil))) (sa_cons (se_tup sa_nil) (sa_cons (se_tup (sa_cons se_int sa_nil)) sa_nil)))) sg_name)
  (ss_seq (ss_asg (se_l (sl_lcE (si_seq (se_l (sl_lst (sa_cons (se_tup (sa_cons se_str (sa_cons se_int (sa_cons se_int sa_nil)))) (sa_cons (se_tup (sa_cons se_str (sa_cons se_int (sa_cons se_int sa_nil)))) (sa_cons (se_tup (sa_cons se_str (sa_cons se_int (sa_cons se_int sa_nil)))) (sa_cons (se_tup (sa_cons se_str (sa_cons (se_tup (sa_cons se_int sa_nil)) sa_nil))) (sa_cons (se_tup (sa_cons se_str (sa_cons (se_tup (sa_cons se_int sa_nil)) sa_nil))) sa_nil)))))))) (by decide) sg_name st_yes (se_meth se_var (sa_cons se_var sa_nil)))) sg_name)
  (ss_seq (ss_if (st_test (se_2 o_ne se_var (se_l (sl_lst (sa_cons se_str (sa_cons se_str (sa_cons se_str (sa_cons se_non (sa_cons se_str sa_nil))))))))) (ss_ret se_bl) ss_next)
  (ss_seq (ss_asg (se_make (ins_LiveHouses T) (sa_cons (se_tup (sa_cons (se_tup (sa_cons se_int (sa_cons se_int (sa_cons se_int (sa_cons se_int (sa_cons se_int (sa_cons se_int sa_nil))))))) (sa_cons (se_tup (sa_cons (se_tup (sa_cons se_int sa_nil)) sa_nil)) sa_nil))) (sa_cons (se_tup sa_nil) (sa_cons (se_tup (sa_cons se_int sa_nil)) sa_nil)))) sg_name)
  (ss_seq (ss_asg (se_l (sl_lcE (si_seq (se_l (sl_lst (sa_cons (se_tup (sa_cons se_str sa_nil)) (sa_cons (se_tup (sa_cons se_str (sa_cons se_int (sa_cons se_int sa_nil)))) (sa_cons (se_tup (sa_cons se_str (sa_cons se_int sa_nil))) (sa_cons (se_tup (sa_cons se_str (sa_cons se_int (sa_cons se_int sa_nil)))) sa_nil))))))) (by decide) sg_name st_yes (se_meth se_var (sa_cons se_var sa_nil)))) sg_name)
  (ss_ret (se_2 o_eq se_var (se_l (sl_lst (sa_cons se_str (sa_cons se_non (sa_cons se_str (sa_cons se_str sa_nil))))))))))))))))))))))))⟩
theorem calr__law_same (T : TX K mg) : ∀ j, CalG P w K mg base (0 + 1 * j) d__law_same [("_law_one" : Str), ("_law_due" : Str)] (spP K mg (MR__law_same j))
  | 0 => by
    obtain ⟨fd, F0⟩ := T.says.def_ (d := d__law_same) (mem_at 52 rfl)
    have F : FunD K d__law_same.name d__law_same.qual d__law_same.params d__law_same.body d__law_same.scope [] [] (He.fAd K d__law_same.at_) fd := F0
    exact ⟨⟨fd, F, fnG_never, F.bindsN fun _ _ _ _ _ _ us hl => match us, hl with | [_, _], _ => rfl⟩, T.glo "_law_same" (mem_at 52 rfl)⟩
  | j + 1 => by
    have c__law_same : CalG P w K mg base (0 + 1 * j) d__law_same [("_law_one" : Str), ("_law_due" : Str)] (spP K mg (MR__law_same j)) := calr__law_same T j
    show CalG P w K mg base (0 + 1 * j + 0 + 1) d__law_same [("_law_one" : Str), ("_law_due" : Str)] (spP K mg (fnM 3 2 (m__law_same (MR__law_same j))))
    have f_bool : mg "bool" = none := T.free "bool" (mem_at 68 rfl)
    have f_int : mg "int" = none := T.free "int" (mem_at 69 rfl)
    have f_isinstance : mg "isinstance" = none := T.free "isinstance" (mem_at 70 rfl)
    have f_len : mg "len" = none := T.free "len" (mem_at 71 rfl)
    have f_list : mg "list" = none := T.free "list" (mem_at 72 rfl)
    have f_range : mg "range" = none := T.free "range" (mem_at 75 rfl)
    have f_str : mg "str" = none := T.free "str" (mem_at 77 rfl)
    have f_tuple : mg "tuple" = none := T.free "tuple" (mem_at 78 rfl)
    obtain ⟨fd, F0⟩ := T.says.def_ (d := d__law_same) (mem_at 52 rfl)
    have F : FunD K d__law_same.name d__law_same.qual d__law_same.params d__law_same.body d__law_same.scope [] [] (He.fAd K d__law_same.at_) fd := F0
    have B : Binds K fd [("_law_one" : Str), ("_law_due" : Str)] [] := F.bindsN fun _ _ _ _ _ _ us hl => match us, hl with | [_, _], _ => rfl
    have glo : mg d__law_same.name = some (.ref (He.fAd K d__law_same.at_)) := T.glo "_law_same" (mem_at 52 rfl)
    refine ⟨⟨fd, F, ?_, B⟩, glo⟩
    refine fnP_ok F sc__law_same (by decide) ?_
    intro cdv A outer s H E hgd hr
    exact ⟨_, (pss_cons (ps_if (PW.pt (pw_or (pt_truth (pe_callB call_isiM (by rfl) (by exact f_isinstance) boot_isinstance (pa_cons (pv 1) (pa_cons (pe_bltn (v := .ty (Ty.nm .tup)) (by rfl) (by exact f_tuple) (by decide +kernel) rfl) pa_nil))) fun _ => rfl) (pw_or1 (pt_truth (pe_callB call_isiM (by rfl) (by exact f_isinstance) boot_isinstance (pa_cons (pv 1) (pa_cons (pe_bltn (v := .ty (Ty.nm .lst)) (by rfl) (by exact f_list) (by decide +kernel) rfl) pa_nil))) fun _ => rfl)))) (pss_cons (ps_if (PW.pt (pw_or (pt_cmpR (op_neG (room65 hr)) (pe_callB call_isiM (by rfl) (by exact f_isinstance) boot_isinstance (pa_cons (pv 0) (pa_cons (pe_bltn (v := .ty (Ty.nm .tup)) (by rfl) (by exact f_tuple) (by decide +kernel) rfl) pa_nil))) (pe_callB call_isiM (by rfl) (by exact f_isinstance) boot_isinstance (pa_cons (pv 1) (pa_cons (pe_bltn (v := .ty (Ty.nm .tup)) (by rfl) (by exact f_tuple) (by decide +kernel) rfl) pa_nil))) (nomark _)) (pw_or1 (pt_cmpR (op_neG (room65 hr)) (pe_callB call_isiM (by rfl) (by exact f_isinstance) boot_isinstance (pa_cons (pv 0) (pa_cons (pe_bltn (v := .ty (Ty.nm .lst)) (by rfl) (by exact f_list) (by decide +kernel) rfl) pa_nil))) (pe_callB call_isiM (by rfl) (by exact f_isinstance) boot_isinstance (pa_cons (pv 1) (pa_cons (pe_bltn (v := .ty (Ty.nm .lst)) (by rfl) (by exact f_list) (by decide +kernel) rfl) pa_nil))) (nomark _))))) (pss_one (ps_ret pe_bl)) pss_nil)
    (pss_cons (ps_if (pt_cmpR (op_neG (room65 hr)) (pe_callB call_len_seq (by rfl) (by exact f_len) (by decide +kernel) (pa_cons (pv 0) pa_nil)) (pe_callB call_len_seq (by rfl) (by exact f_len) (by decide +kernel) (pa_cons (pv 1) pa_nil)) (nomark _)) (pss_one (ps_ret pe_bl)) pss_nil)
    (pss_cons (ps_for (passes_of rfl) rfl (pi_range1 (by rfl) (by exact f_range) (pa_cons (pe_callB call_len_seq (by rfl) (by exact f_len) (by decide +kernel) (pa_cons (pv 1) pa_nil)) pa_nil)) (pg_name (i := 2) sc__law_same.nd rfl (Or.inl rfl)) (pss_one (ps_if (pt_not (pt_truth (pe_cal c__law_same hgd hr (by omega) (passEN (L2N.takes_of rfl rfl rfl rfl)) (pa_cons (pe_ix ix_seq (pv 0) (pv 2) fun _ _ => rfl) (pa_cons (pe_ix ix_seq (pv 1) (pv 2) fun _ _ => rfl) pa_nil))) fun _ => rfl)) (pss_one (ps_ret pe_bl)) pss_nil)))
    (pss_one (ps_ret pe_bl))))) pss_nil)
    (pss_cons (ps_if (pt_cmpR op_isG (pv 1) pe_non (nomark _)) (pss_one (ps_ret (pe_cmpR op_isG (pv 0) pe_non (nomark _)))) pss_nil)
    (pss_cons (ps_if (pt_truth (pe_callB call_isiM (by rfl) (by exact f_isinstance) boot_isinstance (pa_cons (pv 1) (pa_cons (pe_bltn (v := .ty (Ty.nm .str)) (by rfl) (by exact f_str) (by decide +kernel) rfl) pa_nil))) fun _ => rfl) (pss_one (ps_ret (pe_and (pe_callB call_isiM (by rfl) (by exact f_isinstance) boot_isinstance (pa_cons (pv 0) (pa_cons (pe_bltn (v := .ty (Ty.nm .str)) (by rfl) (by exact f_str) (by decide +kernel) rfl) pa_nil))) (pe_one (pe_cmpR (op_eqG (room65 hr)) (pv 0) (pv 1) (nomark _)))))) pss_nil)
    (pss_cons (ps_if (pt_cmpR (op_neG (room65 hr)) (pe_callB call_isiM (by rfl) (by exact f_isinstance) boot_isinstance (pa_cons (pv 0) (pa_cons (pe_bltn (v := .ty (Ty.nm .bool)) (by rfl) (by exact f_bool) (by decide +kernel) rfl) pa_nil))) (pe_callB call_isiM (by rfl) (by exact f_isinstance) boot_isinstance (pa_cons (pv 1) (pa_cons (pe_bltn (v := .ty (Ty.nm .bool)) (by rfl) (by exact f_bool) (by decide +kernel) rfl) pa_nil))) (nomark _)) (pss_one (ps_ret pe_bl)) pss_nil)
    (pss_one (ps_ret (pe_and (pe_callB call_isiM (by rfl) (by exact f_isinstance) boot_isinstance (pa_cons (pv 0) (pa_cons (pe_bltn (v := .ty (Ty.nm .int)) (by rfl) (by exact f_int) (by decide +kernel) rfl) pa_nil))) (pe_one (pe_cmpR (op_eqG (room65 hr)) (pv 0) (pv 1) (nomark _)))))))))),
    (ss_seq (ss_if (st_or (st_tru (se_isi .tup se_var)) (st_tru (se_isi .lst se_var))) (ss_seq (ss_if (st_or (st_test (se_2 o_ne (se_isi .tup se_var) (se_isi .tup se_var))) (st_test (se_2 o_ne (se_isi .lst se_var) (se_isi .lst se_var)))) (ss_ret se_bl) ss_next)
    (ss_seq (ss_if (st_test (se_2 o_ne (se_n o_len (sa_cons se_var sa_nil)) (se_n o_len (sa_cons se_var sa_nil)))) (ss_ret se_bl) ss_next)
    (ss_seq (ss_for (si_rng1 (sa_cons (se_n o_len (sa_cons se_var sa_nil)) sa_nil)) sg_name (ss_if (st_not (st_tru (se_callD (sa_cons (se_2 o_ix se_var se_var) (sa_cons (se_2 o_ix se_var se_var) sa_nil))))) (ss_ret se_bl) ss_next))
    (ss_ret se_bl)))) ss_next)
    (ss_seq (ss_if (st_test (se_2 o_is se_var se_non)) (ss_ret (se_2 o_is se_var se_non)) ss_next)
    (ss_seq (ss_if (st_tru (se_isi .str se_var)) (ss_ret (se_and (se_isi .str se_var) (se_2 o_eq se_var se_var))) ss_next)
    (ss_seq (ss_if (st_test (se_2 o_ne (se_isi .bool se_var) (se_isi .bool se_var))) (ss_ret se_bl) ss_next)
    (ss_ret (se_and (se_isi .int se_var) (se_2 o_eq se_var se_var)))))))⟩
theorem cal__law_same (T : TX K mg) : CalG P w K mg base 6 d__law_same [("_law_one" : Str), ("_law_due" : Str)] (spP K mg M__law_same) := calr__law_same T 6
theorem cal_LiveHouses____len__ (T : TX K mg) : CalM P w K mg base 1 "LiveHouses" "__len__" d_LiveHouses____len__ [("self" : Str)] (spP K mg M_LiveHouses____len__) := by
  have f_len : mg "len" = none := T.free "len" (mem_at 71 rfl)
  obtain ⟨fd, F0⟩ := T.says.def_ (d := d_LiveHouses____len__) (mem_at 53 rfl)
  have F : FunD K d_LiveHouses____len__.name d_LiveHouses____len__.qual d_LiveHouses____len__.params d_LiveHouses____len__.body d_LiveHouses____len__.scope [] [] (He.fAd K d_LiveHouses____len__.at_) fd := F0
  have B : Binds K fd [("self" : Str)] [] := F.bindsN fun _ _ _ _ _ _ us hl => match us, hl with | [_], _ => rfl
  refine ⟨⟨fd, F, ?_, B⟩, me_LiveHouses____len__ T⟩
  refine fnP_ok F sc_LiveHouses____len__ (by decide) ?_
  intro cdv A outer s H E hgd hr
  exact ⟨_, (pss_one (ps_ret (pe_callB call_len_seq (by rfl) (by exact f_len) (by decide +kernel) (pa_cons (pe_fld (pv 0) (by rfl)) pa_nil)))),
  (ss_ret (se_n o_len (sa_cons (se_fld (no_LiveHouses__done T) se_var) sa_nil)))⟩
theorem cal__law_made (T : TX K mg) : CalG P w K mg base 11 d__law_made [("_law_ground" : Str), ("_law_net" : Str), ("_law_table" : Str)] (spP K mg M__law_made) := by
  have c_LiveHouses____len__ : CalM P w K mg base 1 "LiveHouses" "__len__" d_LiveHouses____len__ [("self" : Str)] (spP K mg M_LiveHouses____len__) := cal_LiveHouses____len__ T
  have c_LiveHouses____init__ : CalI P w K mg base 9 "LiveHouses" d_LiveHouses____init__ [("self" : Str), ("ground" : Str), ("net" : Str), ("table" : Str)] (spV K mg "LiveHouses" M_LiveHouses____init__) := cal_LiveHouses____init__ T
  have f_len : mg "len" = none := T.free "len" (mem_at 71 rfl)
  have E_NotUsable : ErrC P w K mg base "NotUsable" "word" "at" d_NotUsable := err_NotUsable T
  obtain ⟨fd, F0⟩ := T.says.def_ (d := d__law_made) (mem_at 54 rfl)
  have F : FunD K d__law_made.name d__law_made.qual d__law_made.params d__law_made.body d__law_made.scope [] [] (He.fAd K d__law_made.at_) fd := F0
  have B : Binds K fd [("_law_ground" : Str), ("_law_net" : Str), ("_law_table" : Str)] [] := F.bindsN fun _ _ _ _ _ _ us hl => match us, hl with | [_, _, _], _ => rfl
  have glo : mg d__law_made.name = some (.ref (He.fAd K d__law_made.at_)) := T.glo "_law_made" (mem_at 54 rfl)
  refine ⟨⟨fd, F, ?_, B⟩, glo⟩
  refine fnP_ok F sc__law_made (by decide) ?_
  intro cdv A outer s H E hgd hr
  exact ⟨_, (pss_one (ps_try_allN (l := [(.ref (He.ga K "NotUsable"), 3, fun a cls d => tRet (tTup (tCons (tXf a cls d (He.ga K "NotUsable") "word" (tVar 3)) (tCons (tXf a cls d (He.ga K "NotUsable") "at" (tVar 3)) tNil))))]) (Wout := fun cls d _ H => E cls d H) rfl rfl sc__law_made.nd (L2N.takes_of rfl rfl rfl rfl)
  (fun W pn xe tk _ => (pss_one (ps_ret (pe_lenG c_LiveHouses____len__ hgd hr (by decide) (L2N.passAt tk) (by rfl) (by exact f_len) boot_len (pa_cons (pe_makeG c_LiveHouses____init__ hgd hr (by decide) (L2N.passAt tk) (pa_cons (pv 0) (pa_cons (pv 1) (pa_cons (pv 2) pa_nil)))) pa_nil)))))
  (.cons (i := 3) (c := .ref (He.ga K "NotUsable")) (ts := fun a cls d => tRet (tTup (tCons (tXf a cls d (He.ga K "NotUsable") "word" (tVar 3)) (tCons (tXf a cls d (He.ga K "NotUsable") "at" (tVar 3)) tNil)))) rfl rfl ⟨rfl, by decide, .inl E_NotUsable.glo⟩
  (fun a oe cls d pn hz hf => (pss_one (ps_ret (pe_tup (pa_cons (pe_xf (C := He.ga K "NotUsable") (xf_NotUsable T) (no_NotUsable_word T) hz.zc hf (pv 3)) (pa_cons (pe_xf (C := He.ga K "NotUsable") (xf_NotUsable T) (no_NotUsable_at T) hz.zc hf (pv 3)) pa_nil)))))) .nil))),
  (ss_tryV (k := 3) (js := []) (fun vs W => (ss_ret (se_atX (fun σ cls dx H hi hv h => h σ hi hv) (se_lenO (sa_cons (se_make (ins_LiveHouses T) (sa_cons se_var (sa_cons se_var (sa_cons se_var sa_nil)))) sa_nil))))) (fun vs => (.cons (cs := [(("NotUsable" : Str), true)]) (by decide) (by decide) (hcm_NotUsable T) (fun a C dd h => by
    obtain rfl := onlym_NotUsable T h
    exact (sxvt_of (sxt_ret (sx_tup (sxs_cons sx_f (sxs_cons sx_f sxs_nil)))))) .nil)))⟩
theorem cal_LiveHouses____getitem__ (T : TX K mg) : CalM P w K mg base 7 "LiveHouses" "__getitem__" d_LiveHouses____getitem__ [("self" : Str), ("setting" : Str)] (spP K mg M_LiveHouses____getitem__) := by
  have c_a_want : CalG P w K mg base 3 d_a_want [("good" : Str), ("word" : Str)] (spP K mg M_a_want) := cal_a_want T
  have c_answer_at : CalG P w K mg base 6 d_answer_at [("sizes" : Str), ("table" : Str), ("setting" : Str)] (spP K mg M_answer_at) := cal_answer_at T
  have c_is_setting : CalG P w K mg base 4 d_is_setting [("sizes" : Str), ("thing" : Str)] (spP K mg M_is_setting) := cal_is_setting T
  obtain ⟨fd, F0⟩ := T.says.def_ (d := d_LiveHouses____getitem__) (mem_at 55 rfl)
  have F : FunD K d_LiveHouses____getitem__.name d_LiveHouses____getitem__.qual d_LiveHouses____getitem__.params d_LiveHouses____getitem__.body d_LiveHouses____getitem__.scope [] [] (He.fAd K d_LiveHouses____getitem__.at_) fd := F0
  have B : Binds K fd [("self" : Str), ("setting" : Str)] [] := F.bindsN fun _ _ _ _ _ _ us hl => match us, hl with | [_, _], _ => rfl
  refine ⟨⟨fd, F, ?_, B⟩, me_LiveHouses____getitem__ T⟩
  refine fnP_ok F sc_LiveHouses____getitem__ (by decide) ?_
  intro cdv A outer s H E hgd hr
  exact ⟨_, (pss_cons (ps_expr (pe_cal c_a_want hgd hr (by decide) (passEN (L2N.takes_of rfl rfl rfl rfl)) (pa_cons (pe_cal c_is_setting hgd hr (by decide) (passEN (L2N.takes_of rfl rfl rfl rfl)) (pa_cons (pe_ix ix_seq (pe_ix ix_seq (pe_fld (pv 0) (by rfl)) pe_int fun _ _ => rfl) pe_int fun _ _ => rfl) (pa_cons (pv 1) pa_nil))) (pa_cons pe_str pa_nil))))
  (pss_one (ps_ret (pe_cal c_answer_at hgd hr (by decide) (passEN (L2N.takes_of rfl rfl rfl rfl)) (pa_cons (pe_ix ix_seq (pe_ix ix_seq (pe_fld (pv 0) (by rfl)) pe_int fun _ _ => rfl) pe_int fun _ _ => rfl) (pa_cons (pe_ix ix_seq (pe_fld (pv 0) (by rfl)) pe_int fun _ _ => rfl) (pa_cons (pv 1) pa_nil))))))),
  (ss_seq (ss_drop (se_callD (sa_cons (se_callD (sa_cons (se_2 o_ix (se_2 o_ix (se_fld (no_LiveHouses__state T) se_var) se_int) se_int) (sa_cons se_var sa_nil))) (sa_cons se_str sa_nil))))
  (ss_ret (se_callD (sa_cons (se_2 o_ix (se_2 o_ix (se_fld (no_LiveHouses__state T) se_var) se_int) se_int) (sa_cons (se_2 o_ix (se_fld (no_LiveHouses__state T) se_var) se_int) (sa_cons se_var sa_nil))))))⟩
theorem cal__law_item (T : TX K mg) : CalG P w K mg base 9 d__law_item [("_law_live" : Str), ("_law_setting" : Str)] (spP K mg M__law_item) := by
  have c_LiveHouses____getitem__ : CalM P w K mg base 7 "LiveHouses" "__getitem__" d_LiveHouses____getitem__ [("self" : Str), ("setting" : Str)] (spP K mg M_LiveHouses____getitem__) := cal_LiveHouses____getitem__ T
  have E_NotUsable : ErrC P w K mg base "NotUsable" "word" "at" d_NotUsable := err_NotUsable T
  obtain ⟨fd, F0⟩ := T.says.def_ (d := d__law_item) (mem_at 56 rfl)
  have F : FunD K d__law_item.name d__law_item.qual d__law_item.params d__law_item.body d__law_item.scope [] [] (He.fAd K d__law_item.at_) fd := F0
  have B : Binds K fd [("_law_live" : Str), ("_law_setting" : Str)] [] := F.bindsN fun _ _ _ _ _ _ us hl => match us, hl with | [_, _], _ => rfl
  have glo : mg d__law_item.name = some (.ref (He.fAd K d__law_item.at_)) := T.glo "_law_item" (mem_at 56 rfl)
  refine ⟨⟨fd, F, ?_, B⟩, glo⟩
  refine fnP_ok F sc__law_item (by decide) ?_
  intro cdv A outer s H E hgd hr
  exact ⟨_, (pss_one (ps_try_allN (l := [(.ref (He.ga K "NotUsable"), 2, fun a cls d => tRet (tTup (tCons (tXf a cls d (He.ga K "NotUsable") "word" (tVar 2)) (tCons (tXf a cls d (He.ga K "NotUsable") "at" (tVar 2)) tNil))))]) (Wout := fun cls d _ H => E cls d H) rfl rfl sc__law_item.nd (L2N.takes_of rfl rfl rfl rfl)
  (fun W pn xe tk _ => (pss_one (ps_ret (pe_atG c_LiveHouses____getitem__ hgd hr (by decide) (L2N.passAt tk) (pv 0) (pv 1) noSlO_name))))
  (.cons (i := 2) (c := .ref (He.ga K "NotUsable")) (ts := fun a cls d => tRet (tTup (tCons (tXf a cls d (He.ga K "NotUsable") "word" (tVar 2)) (tCons (tXf a cls d (He.ga K "NotUsable") "at" (tVar 2)) tNil)))) rfl rfl ⟨rfl, by decide, .inl E_NotUsable.glo⟩
  (fun a oe cls d pn hz hf => (pss_one (ps_ret (pe_tup (pa_cons (pe_xf (C := He.ga K "NotUsable") (xf_NotUsable T) (no_NotUsable_word T) hz.zc hf (pv 2)) (pa_cons (pe_xf (C := He.ga K "NotUsable") (xf_NotUsable T) (no_NotUsable_at T) hz.zc hf (pv 2)) pa_nil)))))) .nil))),
  (ss_tryV (k := 2) (js := []) (fun vs W => (ss_ret (se_atX (fun σ cls dx H hi hv h => h σ hi hv) (se_atG se_var se_var)))) (fun vs => (.cons (cs := [(("NotUsable" : Str), true)]) (by decide) (by decide) (hcm_NotUsable T) (fun a C dd h => by
    obtain rfl := onlym_NotUsable T h
    exact (sxvt_of (sxt_ret (sx_tup (sxs_cons sx_f (sxs_cons sx_f sxs_nil)))))) .nil)))⟩
theorem cal__law_refused (T : TX K mg) : CalG P w K mg base 12 d__law_refused [] (spP K mg M__law_refused) := by
  have c_LiveHouses____init__ : CalI P w K mg base 9 "LiveHouses" d_LiveHouses____init__ [("self" : Str), ("ground" : Str), ("net" : Str), ("table" : Str)] (spV K mg "LiveHouses" M_LiveHouses____init__) := cal_LiveHouses____init__ T
  have c__law_same : CalG P w K mg base 6 d__law_same [("_law_one" : Str), ("_law_due" : Str)] (spP K mg M__law_same) := cal__law_same T
  have c__law_made : CalG P w K mg base 11 d__law_made [("_law_ground" : Str), ("_law_net" : Str), ("_law_table" : Str)] (spP K mg M__law_made) := cal__law_made T
  have c__law_item : CalG P w K mg base 9 d__law_item [("_law_live" : Str), ("_law_setting" : Str)] (spP K mg M__law_item) := cal__law_item T
  have f_list : mg "list" = none := T.free "list" (mem_at 72 rfl)
  obtain ⟨fd, F0⟩ := T.says.def_ (d := d__law_refused) (mem_at 57 rfl)
  have F : FunD K d__law_refused.name d__law_refused.qual d__law_refused.params d__law_refused.body d__law_refused.scope [] [] (He.fAd K d__law_refused.at_) fd := F0
  have B : Binds K fd [] [] := F.bindsN fun _ _ _ _ _ _ us hl => match us, hl with | [], _ => rfl
  have glo : mg d__law_refused.name = some (.ref (He.fAd K d__law_refused.at_)) := T.glo "_law_refused" (mem_at 57 rfl)
  refine ⟨⟨fd, F, ?_, B⟩, glo⟩
  show FnG P w K mg base _ _ _ _ _ (spP K mg (fnM 7 0 m__law_refused))
  refine fnP_ok (N := N__law_refused) (m := m__law_refused) F sc__law_refused (by decide) ?_
  intro cdv A outer s H E hgd hr
  exact ⟨_, (pss_cons (ps_set (i := 0) sc__law_refused.nd rfl (Or.inl rfl) (pe_tup (pa_cons (pe_tup (pa_cons pe_int (pa_cons pe_int (pa_cons pe_int pa_nil)))) (pa_cons (pe_tup (pa_cons (pe_tup (pa_cons pe_int (pa_cons pe_int pa_nil))) (pa_cons (pe_tup (pa_cons pe_int pa_nil)) pa_nil))) pa_nil))))
  (pss_cons (ps_set (i := 1) sc__law_refused.nd rfl (Or.inl rfl) (pe_tup (pa_cons (pe_tup (pa_cons pe_int (pa_cons pe_int pa_nil))) (pa_cons (pe_tup (pa_cons pe_int (pa_cons pe_int pa_nil))) pa_nil))))
  (pss_cons (ps_set (i := 2) sc__law_refused.nd rfl (Or.inl rfl) (pe_tup (pa_cons pe_int (pa_cons pe_int (pa_cons pe_int (pa_cons pe_int pa_nil))))))
  (pss_cons (ps_if (PW.pt (pw_or (pt_not (pt_truth (pe_cal c__law_same hgd hr (by decide) (passEN (L2N.takes_of rfl rfl rfl rfl)) (pa_cons (pe_cal c__law_made hgd hr (by decide) (passEN (L2N.takes_of rfl rfl rfl rfl)) (pa_cons (pv 0) (pa_cons (pv 1) (pa_cons (pv 2) pa_nil)))) (pa_cons pe_int pa_nil))) fun _ => rfl)) (pw_or1 (pt_not (pt_truth (pe_cal c__law_same hgd hr (by decide) (passEN (L2N.takes_of rfl rfl rfl rfl)) (pa_cons (pe_cal c__law_made hgd hr (by decide) (passEN (L2N.takes_of rfl rfl rfl rfl)) (pa_cons (pv 0) (pa_cons (pe_tup pa_nil) (pa_cons (pe_tup (pa_cons pe_int (pa_cons pe_int (pa_cons pe_int (pa_cons pe_int pa_nil))))) pa_nil)))) (pa_cons pe_int pa_nil))) fun _ => rfl))))) (pss_one (ps_ret pe_bl)) pss_nil)
  (pss_cons (ps_for (passes_of rfl) rfl (pi_seq (pe_lst (pa_cons pe_non (pa_cons (pe_callTy call_list_of (by rfl) (by exact f_list) (by decide +kernel) (pa_cons (pv 0) pa_nil)) (pa_cons (pe_tup (pa_cons (pe_tup (pa_cons pe_int (pa_cons pe_int (pa_cons pe_int pa_nil)))) (pa_cons (pe_tup pa_nil) pa_nil))) (pa_cons (pe_tup (pa_cons (pe_tup (pa_cons pe_int (pa_cons pe_bl (pa_cons pe_int pa_nil)))) (pa_cons (pe_ix ix_seq (pv 0) pe_int fun _ _ => rfl) pa_nil))) (pa_cons (pe_tup (pa_cons (pe_tup (pa_cons pe_int (pa_cons pe_int (pa_cons pe_int pa_nil)))) (pa_cons (pe_tup (pa_cons (pe_tup (pa_cons pe_int pa_nil)) (pa_cons (pe_tup (pa_cons pe_int (pa_cons pe_int pa_nil))) pa_nil))) pa_nil))) (pa_cons (pe_tup (pa_cons (pe_ix ix_seq (pv 0) pe_int fun _ _ => rfl) pa_nil)) pa_nil)))))))) (pg_name (i := 3) sc__law_refused.nd rfl (Or.inl rfl)) (pss_cons (ps_set (i := 5) sc__law_refused.nd rfl (Or.inl rfl) (pe_lst (pa_cons (pe_cal c__law_made hgd hr (by decide) (passEN (L2N.takes_of rfl rfl rfl rfl)) (pa_cons (pv 3) (pa_cons (pv 1) (pa_cons (pv 2) pa_nil)))) (pa_cons (pe_cal c__law_made hgd hr (by decide) (passEN (L2N.takes_of rfl rfl rfl rfl)) (pa_cons (pv 3) (pa_cons pe_non (pa_cons pe_non pa_nil)))) pa_nil))))
  (pss_one (ps_if (pt_not (pt_truth (pe_cal c__law_same hgd hr (by decide) (passEN (L2N.takes_of rfl rfl rfl rfl)) (pa_cons (pv 5) (pa_cons (pe_lst (pa_cons (pe_tup (pa_cons pe_str (pa_cons (pe_un un_neg pe_int) pa_nil))) (pa_cons (pe_tup (pa_cons pe_str (pa_cons (pe_un un_neg pe_int) pa_nil))) pa_nil))) pa_nil))) fun _ => rfl)) (pss_one (ps_ret pe_bl)) pss_nil))))
  (pss_cons (ps_for (passes_of rfl) rfl (pi_seq (pe_lst (pa_cons pe_non (pa_cons (pe_callTy call_list_of (by rfl) (by exact f_list) (by decide +kernel) (pa_cons (pv 1) pa_nil)) (pa_cons (pe_tup (pa_cons (pe_tup (pa_cons pe_int (pa_cons pe_int pa_nil))) pa_nil)) (pa_cons (pe_tup (pa_cons (pe_tup (pa_cons pe_int (pa_cons pe_int pa_nil))) pa_nil)) (pa_cons (pe_tup (pa_cons (pe_tup (pa_cons pe_int (pa_cons pe_int pa_nil))) (pa_cons (pe_tup (pa_cons pe_int (pa_cons pe_int pa_nil))) pa_nil))) (pa_cons (pe_tup (pa_cons (pe_tup (pa_cons pe_int (pa_cons pe_bl pa_nil))) pa_nil)) (pa_cons (pe_tup (pa_cons (pe_tup (pa_cons pe_int (pa_cons pe_int pa_nil))) pa_nil)) (pa_cons (pe_tup (pa_cons (pe_lst (pa_cons pe_int (pa_cons pe_int pa_nil))) pa_nil)) pa_nil)))))))))) (pg_name (i := 3) sc__law_refused.nd rfl (Or.inl rfl)) (pss_cons (ps_set (i := 5) sc__law_refused.nd rfl (Or.inl rfl) (pe_lst (pa_cons (pe_cal c__law_made hgd hr (by decide) (passEN (L2N.takes_of rfl rfl rfl rfl)) (pa_cons (pv 0) (pa_cons (pv 3) (pa_cons (pv 2) pa_nil)))) (pa_cons (pe_cal c__law_made hgd hr (by decide) (passEN (L2N.takes_of rfl rfl rfl rfl)) (pa_cons (pv 0) (pa_cons (pv 3) (pa_cons pe_non pa_nil)))) pa_nil))))
  (pss_one (ps_if (pt_not (pt_truth (pe_cal c__law_same hgd hr (by decide) (passEN (L2N.takes_of rfl rfl rfl rfl)) (pa_cons (pv 5) (pa_cons (pe_lst (pa_cons (pe_tup (pa_cons pe_str (pa_cons (pe_un un_neg pe_int) pa_nil))) (pa_cons (pe_tup (pa_cons pe_str (pa_cons (pe_un un_neg pe_int) pa_nil))) pa_nil))) pa_nil))) fun _ => rfl)) (pss_one (ps_ret pe_bl)) pss_nil))))
  (pss_cons (ps_for (passes_of rfl) rfl (pi_seq (pe_lst (pa_cons pe_non (pa_cons (pe_callTy call_list_of (by rfl) (by exact f_list) (by decide +kernel) (pa_cons (pv 2) pa_nil)) (pa_cons (pe_tup (pa_cons pe_int (pa_cons pe_int (pa_cons pe_int pa_nil)))) (pa_cons (pe_tup (pa_cons pe_int (pa_cons pe_int (pa_cons pe_int (pa_cons pe_int (pa_cons pe_int pa_nil)))))) (pa_cons (pe_tup (pa_cons pe_int (pa_cons pe_int (pa_cons pe_int (pa_cons pe_bl pa_nil))))) (pa_cons (pe_tup (pa_cons pe_int (pa_cons pe_int (pa_cons pe_int (pa_cons pe_int pa_nil))))) (pa_cons (pe_tup pa_nil) (pa_cons pe_str pa_nil)))))))))) (pg_name (i := 3) sc__law_refused.nd rfl (Or.inl rfl)) (pss_one (ps_if (pt_not (pt_truth (pe_cal c__law_same hgd hr (by decide) (passEN (L2N.takes_of rfl rfl rfl rfl)) (pa_cons (pe_cal c__law_made hgd hr (by decide) (passEN (L2N.takes_of rfl rfl rfl rfl)) (pa_cons (pv 0) (pa_cons (pv 1) (pa_cons (pv 3) pa_nil)))) (pa_cons (pe_tup (pa_cons pe_str (pa_cons (pe_un un_neg pe_int) pa_nil))) pa_nil))) fun _ => rfl)) (pss_one (ps_ret pe_bl)) pss_nil)))
  (pss_cons (ps_set (i := 4) sc__law_refused.nd rfl (Or.inr rfl) (pe_makeG c_LiveHouses____init__ hgd hr (by decide) (passEN (L2N.takes_of rfl rfl rfl rfl)) (pa_cons (pv 0) (pa_cons (pv 1) (pa_cons (pv 2) pa_nil)))))
  (pss_cons (ps_for (passes_of rfl) rfl (pi_seq (pe_lst (pa_cons (pe_tup pa_nil) (pa_cons (pe_tup (pa_cons pe_int (pa_cons pe_int pa_nil))) (pa_cons (pe_tup (pa_cons pe_int (pa_cons pe_int (pa_cons pe_int (pa_cons pe_int pa_nil))))) (pa_cons (pe_tup (pa_cons pe_int (pa_cons pe_int (pa_cons pe_int pa_nil)))) (pa_cons (pe_tup (pa_cons pe_int (pa_cons pe_int (pa_cons pe_bl pa_nil)))) (pa_cons (pe_tup (pa_cons (pe_un un_neg pe_int) (pa_cons pe_int (pa_cons pe_int pa_nil)))) (pa_cons (pe_tup (pa_cons pe_int (pa_cons pe_int (pa_cons pe_int pa_nil)))) (pa_cons (pe_lst (pa_cons pe_int (pa_cons pe_int (pa_cons pe_int pa_nil)))) (pa_cons pe_non (pa_cons pe_int (pa_cons pe_str (pa_cons pe_bl pa_nil)))))))))))))) (pg_name (i := 3) sc__law_refused.nd rfl (Or.inl rfl)) (pss_one (ps_if (pt_not (pt_truth (pe_cal c__law_same hgd hr (by decide) (passEN (L2N.takes_of rfl rfl rfl rfl)) (pa_cons (pe_cal c__law_item hgd hr (by decide) (passEN (L2N.takes_of rfl rfl rfl rfl)) (pa_cons (pv 4) (pa_cons (pv 3) pa_nil))) (pa_cons (pe_tup (pa_cons pe_str (pa_cons (pe_un un_neg pe_int) pa_nil))) pa_nil))) fun _ => rfl)) (pss_one (ps_ret pe_bl)) pss_nil)))
  (pss_one (ps_ret (pe_cal c__law_same hgd hr (by decide) (passEN (L2N.takes_of rfl rfl rfl rfl)) (pa_cons (pe_lc (own := [(("_law_one" : Str), 6)]) (g := gName 6) rfl sc__law_refused.nd (pi_seq (pe_lst (pa_cons (pe_tup (pa_cons pe_int (pa_cons pe_int (pa_cons pe_int pa_nil)))) (pa_cons (pe_tup (pa_cons pe_int (pa_cons pe_int (pa_cons pe_int pa_nil)))) (pa_cons (pe_tup (pa_cons pe_int (pa_cons pe_int (pa_cons pe_int pa_nil)))) (pa_cons (pe_tup (pa_cons pe_int (pa_cons pe_int (pa_cons pe_int pa_nil)))) pa_nil)))))) (blkOk_by (own := [(("_law_one" : Str), 6)]) (N := N__law_refused) (sc := d__law_refused.scope) (by decide +kernel)) (fun _ _ _ _ _ => pg_name (i := 6) sc__law_refused.nd rfl (by first | exact Or.inl rfl | exact Or.inr rfl)) (fun _ _ _ _ _ => pts_nil) (fun _ _ _ _ _ => (pe_cal c__law_item hgd hr (by decide) passF (pa_cons (pv 4) (pa_cons (pv 6) pa_nil))))) (pa_cons (pe_lst (pa_cons pe_int (pa_cons pe_int (pa_cons pe_int (pa_cons pe_int pa_nil))))) pa_nil)))))))))))))),
  (ss_seq (ss_asg (se_tup (sa_cons (se_tup (sa_cons se_int (sa_cons se_int (sa_cons se_int sa_nil)))) (sa_cons (se_tup (sa_cons (se_tup (sa_cons se_int (sa_cons se_int sa_nil))) (sa_cons (se_tup (sa_cons se_int sa_nil)) sa_nil))) sa_nil))) sg_name)
  (ss_seq (ss_asg (se_tup (sa_cons (se_tup (sa_cons se_int (sa_cons se_int sa_nil))) (sa_cons (se_tup (sa_cons se_int (sa_cons se_int sa_nil))) sa_nil))) sg_name)
  (ss_seq (ss_asg (se_tup (sa_cons se_int (sa_cons se_int (sa_cons se_int (sa_cons se_int sa_nil))))) sg_name)
  (ss_seq (ss_if (st_or (st_not (st_tru (se_callD (sa_cons (se_callD (sa_cons se_var (sa_cons se_var (sa_cons se_var sa_nil)))) (sa_cons se_int sa_nil))))) (st_not (st_tru (se_callD (sa_cons (se_callD (sa_cons se_var (sa_cons (se_tup sa_nil) (sa_cons (se_tup (sa_cons se_int (sa_cons se_int (sa_cons se_int (sa_cons se_int sa_nil))))) sa_nil)))) (sa_cons se_int sa_nil)))))) (ss_ret se_bl) ss_next)
  (ss_seq (ss_for (si_seq (se_l (sl_lst (sa_cons se_non (sa_cons (se_l (sl_n o_list (sa_cons se_var sa_nil))) (sa_cons (se_tup (sa_cons (se_tup (sa_cons se_int (sa_cons se_int (sa_cons se_int sa_nil)))) (sa_cons (se_tup sa_nil) sa_nil))) (sa_cons (se_tup (sa_cons (se_tup (sa_cons se_int (sa_cons se_bl (sa_cons se_int sa_nil)))) (sa_cons (se_2 o_ix se_var se_int) sa_nil))) (sa_cons (se_tup (sa_cons (se_tup (sa_cons se_int (sa_cons se_int (sa_cons se_int sa_nil)))) (sa_cons (se_tup (sa_cons (se_tup (sa_cons se_int sa_nil)) (sa_cons (se_tup (sa_cons se_int (sa_cons se_int sa_nil))) sa_nil))) sa_nil))) (sa_cons (se_tup (sa_cons (se_2 o_ix se_var se_int) sa_nil)) sa_nil))))))))) sg_name (ss_seq (ss_asg (se_l (sl_lst (sa_cons (se_callD (sa_cons se_var (sa_cons se_var (sa_cons se_var sa_nil)))) (sa_cons (se_callD (sa_cons se_var (sa_cons se_non (sa_cons se_non sa_nil)))) sa_nil)))) sg_name)
  (ss_if (st_not (st_tru (se_callD (sa_cons se_var (sa_cons (se_l (sl_lst (sa_cons (se_tup (sa_cons se_str (sa_cons (se_1 o_neg se_int) sa_nil))) (sa_cons (se_tup (sa_cons se_str (sa_cons (se_1 o_neg se_int) sa_nil))) sa_nil)))) sa_nil))))) (ss_ret se_bl) ss_next)))
  (ss_seq (ss_for (si_seq (se_l (sl_lst (sa_cons se_non (sa_cons (se_l (sl_n o_list (sa_cons se_var sa_nil))) (sa_cons (se_tup (sa_cons (se_tup (sa_cons se_int (sa_cons se_int sa_nil))) sa_nil)) (sa_cons (se_tup (sa_cons (se_tup (sa_cons se_int (sa_cons se_int sa_nil))) sa_nil)) (sa_cons (se_tup (sa_cons (se_tup (sa_cons se_int (sa_cons se_int sa_nil))) (sa_cons (se_tup (sa_cons se_int (sa_cons se_int sa_nil))) sa_nil))) (sa_cons (se_tup (sa_cons (se_tup (sa_cons se_int (sa_cons se_bl sa_nil))) sa_nil)) (sa_cons (se_tup (sa_cons (se_tup (sa_cons se_int (sa_cons se_int sa_nil))) sa_nil)) (sa_cons (se_tup (sa_cons (se_l (sl_lst (sa_cons se_int (sa_cons se_int sa_nil)))) sa_nil)) sa_nil))))))))))) sg_name (ss_seq (ss_asg (se_l (sl_lst (sa_cons (se_callD (sa_cons se_var (sa_cons se_var (sa_cons se_var sa_nil)))) (sa_cons (se_callD (sa_cons se_var (sa_cons se_var (sa_cons se_non sa_nil)))) sa_nil)))) sg_name)
  (ss_if (st_not (st_tru (se_callD (sa_cons se_var (sa_cons (se_l (sl_lst (sa_cons (se_tup (sa_cons se_str (sa_cons (se_1 o_neg se_int) sa_nil))) (sa_cons (se_tup (sa_cons se_str (sa_cons (se_1 o_neg se_int) sa_nil))) sa_nil)))) sa_nil))))) (ss_ret se_bl) ss_next)))
  (ss_seq (ss_for (si_seq (se_l (sl_lst (sa_cons se_non (sa_cons (se_l (sl_n o_list (sa_cons se_var sa_nil))) (sa_cons (se_tup (sa_cons se_int (sa_cons se_int (sa_cons se_int sa_nil)))) (sa_cons (se_tup (sa_cons se_int (sa_cons se_int (sa_cons se_int (sa_cons se_int (sa_cons se_int sa_nil)))))) (sa_cons (se_tup (sa_cons se_int (sa_cons se_int (sa_cons se_int (sa_cons se_bl sa_nil))))) (sa_cons (se_tup (sa_cons se_int (sa_cons se_int (sa_cons se_int (sa_cons se_int sa_nil))))) (sa_cons (se_tup sa_nil) (sa_cons se_str sa_nil))))))))))) sg_name (ss_if (st_not (st_tru (se_callD (sa_cons (se_callD (sa_cons se_var (sa_cons se_var (sa_cons se_var sa_nil)))) (sa_cons (se_tup (sa_cons se_str (sa_cons (se_1 o_neg se_int) sa_nil))) sa_nil))))) (ss_ret se_bl) ss_next))
  (ss_seq (ss_asg (se_make (ins_LiveHouses T) (sa_cons se_var (sa_cons se_var (sa_cons se_var sa_nil)))) sg_name)
  (ss_seq (ss_for (si_seq (se_l (sl_lst (sa_cons (se_tup sa_nil) (sa_cons (se_tup (sa_cons se_int (sa_cons se_int sa_nil))) (sa_cons (se_tup (sa_cons se_int (sa_cons se_int (sa_cons se_int (sa_cons se_int sa_nil))))) (sa_cons (se_tup (sa_cons se_int (sa_cons se_int (sa_cons se_int sa_nil)))) (sa_cons (se_tup (sa_cons se_int (sa_cons se_int (sa_cons se_bl sa_nil)))) (sa_cons (se_tup (sa_cons (se_1 o_neg se_int) (sa_cons se_int (sa_cons se_int sa_nil)))) (sa_cons (se_tup (sa_cons se_int (sa_cons se_int (sa_cons se_int sa_nil)))) (sa_cons (se_l (sl_lst (sa_cons se_int (sa_cons se_int (sa_cons se_int sa_nil))))) (sa_cons se_non (sa_cons se_int (sa_cons se_str (sa_cons se_bl sa_nil))))))))))))))) sg_name (ss_if (st_not (st_tru (se_callD (sa_cons (se_callD (sa_cons se_var (sa_cons se_var sa_nil))) (sa_cons (se_tup (sa_cons se_str (sa_cons (se_1 o_neg se_int) sa_nil))) sa_nil))))) (ss_ret se_bl) ss_next))
  (ss_ret (se_callD (sa_cons (se_l (sl_lc (si_seq (se_l (sl_lst (sa_cons (se_tup (sa_cons se_int (sa_cons se_int (sa_cons se_int sa_nil)))) (sa_cons (se_tup (sa_cons se_int (sa_cons se_int (sa_cons se_int sa_nil)))) (sa_cons (se_tup (sa_cons se_int (sa_cons se_int (sa_cons se_int sa_nil)))) (sa_cons (se_tup (sa_cons se_int (sa_cons se_int (sa_cons se_int sa_nil)))) sa_nil))))))) (by decide) sg_name st_yes (se_callD (sa_cons se_var (sa_cons se_var sa_nil))))) (sa_cons (se_l (sl_lst (sa_cons se_int (sa_cons se_int (sa_cons se_int (sa_cons se_int sa_nil)))))) sa_nil)))))))))))))⟩
theorem cal__law_bents (T : TX K mg) : CalG P w K mg base 2 d__law_bents [("_law_feed_here" : Str), ("_law_event" : Str)] (spD K mg M__law_bents) := by
  have c__law_strange : CalG P w K mg base 1 d__law_strange [] (spP K mg M__law_strange) := cal__law_strange T
  have c__law_draw : CalG P w K mg base 1 d__law_draw [("_law_feed_here" : Str), ("_law_many" : Str)] (spD K mg M__law_draw) := cal__law_draw T
  have f_len : mg "len" = none := T.free "len" (mem_at 71 rfl)
  have f_list : mg "list" = none := T.free "list" (mem_at 72 rfl)
  obtain ⟨fd, F0⟩ := T.says.def_ (d := d__law_bents) (mem_at 58 rfl)
  have F : FunD K d__law_bents.name d__law_bents.qual d__law_bents.params d__law_bents.body d__law_bents.scope [] [] (He.fAd K d__law_bents.at_) fd := F0
  have B : Binds K fd [("_law_feed_here" : Str), ("_law_event" : Str)] [] := F.bindsN fun _ _ _ _ _ _ us hl => match us, hl with | [_, _], _ => rfl
  have glo : mg d__law_bents.name = some (.ref (He.fAd K d__law_bents.at_)) := T.glo "_law_bents" (mem_at 58 rfl)
  refine ⟨⟨fd, F, ?_, B⟩, glo⟩
  refine fnD_ok F sc__law_bents (by decide) ?_
  intro cdv A outer s H E hgd hr
  exact ⟨_, (pss_cons (ps_set (i := 2) sc__law_bents.nd rfl (Or.inr rfl) (pe_ix ix_seq (pv 1) pe_int fun _ _ => rfl))
  (pss_cons (ps_set (i := 3) sc__law_bents.nd rfl (Or.inr rfl) (pe_slice slr_2 (pv 1) (po_some pe_int) po_none))
  (pss_cons (ps_set (i := 4) sc__law_bents.nd rfl (Or.inl rfl) (pe_lst (pa_cons (pe_callTy call_list_of (by rfl) (by exact f_list) (by decide +kernel) (pa_cons (pv 1) pa_nil)) (pa_cons (pe_op op_add3 (pv 1) (pe_tup (pa_cons pe_int pa_nil))) (pa_cons (pe_op op_add3 (pv 1) (pe_tup (pa_cons (pe_tup pa_nil) pa_nil))) (pa_cons (pe_slice slr_2 (pv 1) po_none (po_some (pe_un un_neg pe_int))) (pa_cons (pe_tup (pa_cons (pv 1) pa_nil)) (pa_cons (pv 2) (pa_cons (pe_op op_add3 (pe_tup (pa_cons (pe_upper (pv 2)) pa_nil)) (pv 3)) (pa_cons (pe_lst (pa_cons (pv 2) pa_nil)) pa_nil))))))))))
  (pss_cons (ps_set (i := 4) sc__law_bents.nd rfl (Or.inl rfl) (pe_op op_add3 (pv 4) (pe_lst (pa_cons (pe_op op_add3 (pe_tup (pa_cons (pe_op op_addS (pv 2) pe_str) pa_nil)) (pv 3)) (pa_cons (pe_op op_add3 (pe_tup (pa_cons pe_str pa_nil)) (pv 3)) (pa_cons (pe_op op_add3 (pe_tup (pa_cons pe_str pa_nil)) (pv 3)) (pa_cons (pe_op op_add3 (pe_tup (pa_cons pe_non pa_nil)) (pv 3)) (pa_cons (pe_op op_add3 (pe_tup (pa_cons pe_int pa_nil)) (pv 3)) (pa_cons (pv 3) pa_nil)))))))))
  (pss_cons (ps_expr (pe_bm PySem.F.plainAttrs_list PySem.F.slot_list_append PySem.F.type_list_append mt_append (pv 4) (pa_cons (pe_op op_add3 (pe_tup (pa_cons (pe_tup (pa_cons pe_str pa_nil)) pa_nil)) (pv 3)) pa_nil)))
  (pss_cons (ps_set (i := 5) sc__law_bents.nd rfl (Or.inl rfl) (pe_calE c__law_strange hgd hr (by decide) (passEN (L2N.takes_of rfl rfl rfl rfl))))
  (pss_cons (ps_if (PW.pt (pw_or (pt_cmpR (op_eqG (room65 hr)) (pv 2) pe_str (nomark _)) (pw_or1 (pt_cmpR (op_eqG (room65 hr)) (pv 2) pe_str (nomark _))))) (pss_cons (ps_set (i := 6) sc__law_bents.nd rfl (Or.inr rfl) (pe_ix ix_seq (pv 3) pe_int fun _ _ => rfl))
  (pss_cons (ps_set (i := 7) sc__law_bents.nd rfl (Or.inr rfl) (pe_cal c__law_draw hgd hr (by decide) (passEN (L2N.takes_of rfl rfl rfl rfl)) (pa_cons (pv 0) (pa_cons (pe_op op_add3 (pe_callB call_len_seq (by rfl) (by exact f_len) (by decide +kernel) (pa_cons (pv 6) pa_nil)) pe_int) pa_nil))))
  (pss_cons (ps_set (i := 4) sc__law_bents.nd rfl (Or.inl rfl) (pe_op op_add3 (pv 4) (pe_lc (own := [(("_law_odd" : Str), 9)]) (g := gName 9) rfl sc__law_bents.nd (pi_seq (pv 5)) (blkOk_by (own := [(("_law_odd" : Str), 9)]) (N := N__law_bents) (sc := d__law_bents.scope) (by decide +kernel)) (fun _ _ _ _ _ => pg_name (i := 9) sc__law_bents.nd rfl (by first | exact Or.inl rfl | exact Or.inr rfl)) (fun _ _ _ _ _ => pts_nil) (fun _ _ _ _ _ => (pe_tup (pa_cons (pv 2) (pa_cons (pe_op op_add3 (pe_op op_add3 (pe_slice slr_2 (pv 6) po_none (po_some (pv 7))) (pe_tup (pa_cons (pv 9) pa_nil))) (pe_slice slr_2 (pv 6) (po_some (pv 7)) po_none)) pa_nil)))))))
  (pss_cons (ps_set (i := 4) sc__law_bents.nd rfl (Or.inl rfl) (pe_op op_add3 (pv 4) (pe_lst (pa_cons (pe_tup (pa_cons (pv 2) (pa_cons (pe_callTy call_list_of (by rfl) (by exact f_list) (by decide +kernel) (pa_cons (pv 6) pa_nil)) pa_nil))) (pa_cons (pe_tup (pa_cons (pv 2) (pa_cons pe_non pa_nil))) (pa_cons (pe_tup (pa_cons (pv 2) (pa_cons pe_bl pa_nil))) (pa_cons (pe_tup (pa_cons (pv 2) (pa_cons pe_int pa_nil))) (pa_cons (pe_tup (pa_cons (pv 2) (pa_cons pe_str pa_nil))) pa_nil))))))))
  (pss_cons (ps_if (pt_cmpR (op_gtG (room65 hr)) (pe_callB call_len_seq (by rfl) (by exact f_len) (by decide +kernel) (pa_cons (pv 6) pa_nil)) pe_int (nomark _)) (pss_one (ps_set (i := 4) sc__law_bents.nd rfl (Or.inl rfl) (pe_op op_add3 (pv 4) (pe_lst (pa_cons (pe_tup (pa_cons (pv 2) (pa_cons (pe_op op_add3 (pv 6) (pe_slice slr_2 (pv 6) (po_some (pe_un un_neg pe_int)) po_none)) pa_nil))) (pa_cons (pe_tup (pa_cons (pv 2) (pa_cons (pe_op op_add3 (pe_slice slr_2 (pv 6) po_none (po_some pe_int)) (pv 6)) pa_nil))) (pa_cons (pe_tup (pa_cons (pv 2) (pa_cons (pe_op op_add3 (pv 6) (pe_tup (pa_cons (pe_ix ix_seq (pv 6) pe_int fun _ _ => rfl) pa_nil))) pa_nil))) pa_nil))))))) pss_nil)
  (pss_one (ps_if (pt_cmpR (op_gtG (room65 hr)) (pe_callB call_len_seq (by rfl) (by exact f_len) (by decide +kernel) (pa_cons (pv 6) pa_nil)) pe_int (nomark _)) (pss_one (ps_expr (pe_bm PySem.F.plainAttrs_list PySem.F.slot_list_append PySem.F.type_list_append mt_append (pv 4) (pa_cons (pe_tup (pa_cons (pv 2) (pa_cons (pe_op op_add3 (pe_slice slr_2 (pv 6) (po_some pe_int) po_none) (pe_slice slr_2 (pv 6) po_none (po_some pe_int))) pa_nil))) pa_nil)))) pss_nil))))))) pss_nil)
  (pss_cons (ps_if (pt_cmpR (op_eqG (room65 hr)) (pv 2) pe_str (nomark _)) (pss_cons (ps_set (i := 8) sc__law_bents.nd rfl (Or.inr rfl) (pe_ix ix_seq (pv 3) pe_int fun _ _ => rfl))
  (pss_cons (ps_set (i := 7) sc__law_bents.nd rfl (Or.inr rfl) (pe_cal c__law_draw hgd hr (by decide) (passEN (L2N.takes_of rfl rfl rfl rfl)) (pa_cons (pv 0) (pa_cons (pe_callB call_len_seq (by rfl) (by exact f_len) (by decide +kernel) (pa_cons (pv 8) pa_nil)) pa_nil))))
  (pss_cons (ps_set (i := 4) sc__law_bents.nd rfl (Or.inl rfl) (pe_op op_add3 (pv 4) (pe_lc (own := [(("_law_odd" : Str), 9)]) (g := gName 9) rfl sc__law_bents.nd (pi_seq (pv 5)) (blkOk_by (own := [(("_law_odd" : Str), 9)]) (N := N__law_bents) (sc := d__law_bents.scope) (by decide +kernel)) (fun _ _ _ _ _ => pg_name (i := 9) sc__law_bents.nd rfl (by first | exact Or.inl rfl | exact Or.inr rfl)) (fun _ _ _ _ _ => pts_nil) (fun _ _ _ _ _ => (pe_tup (pa_cons (pv 2) (pa_cons (pe_op op_add3 (pe_op op_add3 (pe_slice slr_2 (pv 8) po_none (po_some (pv 7))) (pe_tup (pa_cons (pv 9) pa_nil))) (pe_slice slr_2 (pv 8) (po_some (pe_op op_add3 (pv 7) pe_int)) po_none)) (pa_cons (pe_ix ix_seq (pv 3) pe_int fun _ _ => rfl) pa_nil))))))))
  (pss_cons (ps_set (i := 4) sc__law_bents.nd rfl (Or.inl rfl) (pe_op op_add3 (pv 4) (pe_lc (own := [(("_law_odd" : Str), 9)]) (g := gName 9) rfl sc__law_bents.nd (pi_seq (pe_op op_add3 (pv 5) (pe_lst (pa_cons pe_int (pa_cons (pe_op op_pow pe_int pe_int) pa_nil))))) (blkOk_by (own := [(("_law_odd" : Str), 9)]) (N := N__law_bents) (sc := d__law_bents.scope) (by decide +kernel)) (fun _ _ _ _ _ => pg_name (i := 9) sc__law_bents.nd rfl (by first | exact Or.inl rfl | exact Or.inr rfl)) (fun _ _ _ _ _ => pts_nil) (fun _ _ _ _ _ => (pe_tup (pa_cons (pv 2) (pa_cons (pv 8) (pa_cons (pv 9) pa_nil))))))))
  (pss_cons (ps_set (i := 4) sc__law_bents.nd rfl (Or.inl rfl) (pe_op op_add3 (pv 4) (pe_lst (pa_cons (pe_tup (pa_cons (pv 2) (pa_cons (pe_tup pa_nil) (pa_cons (pe_ix ix_seq (pv 3) pe_int fun _ _ => rfl) pa_nil)))) (pa_cons (pe_tup (pa_cons (pv 2) (pa_cons (pe_callTy call_list_of (by rfl) (by exact f_list) (by decide +kernel) (pa_cons (pv 8) pa_nil)) (pa_cons (pe_ix ix_seq (pv 3) pe_int fun _ _ => rfl) pa_nil)))) (pa_cons (pe_tup (pa_cons (pv 2) (pa_cons (pe_ix ix_seq (pv 3) pe_int fun _ _ => rfl) (pa_cons (pv 8) pa_nil)))) pa_nil))))))
  (pss_one (ps_set (i := 4) sc__law_bents.nd rfl (Or.inl rfl) (pe_op op_add3 (pv 4) (pe_lst (pa_cons (pe_tup (pa_cons (pv 2) (pa_cons (pe_ix ix_seq (pv 8) pe_int fun _ _ => rfl) (pa_cons (pe_ix ix_seq (pv 3) pe_int fun _ _ => rfl) pa_nil)))) (pa_cons (pe_op op_add3 (pe_op op_add3 (pe_tup (pa_cons (pv 2) pa_nil)) (pv 8)) (pe_tup (pa_cons (pe_ix ix_seq (pv 3) pe_int fun _ _ => rfl) (pa_cons pe_int pa_nil)))) pa_nil))))))))))) pss_nil)
  (pss_cons (ps_if (PW.pt (pw_or (pt_cmpR (op_eqG (room65 hr)) (pv 2) pe_str (nomark _)) (pw_or (pt_cmpR (op_eqG (room65 hr)) (pv 2) pe_str (nomark _)) (pw_or1 (pt_cmpR (op_eqG (room65 hr)) (pv 2) pe_str (nomark _)))))) (pss_cons (ps_set (i := 4) sc__law_bents.nd rfl (Or.inl rfl) (pe_op op_add3 (pv 4) (pe_lc (own := [(("_law_odd" : Str), 9)]) (g := gName 9) rfl sc__law_bents.nd (pi_seq (pv 5)) (blkOk_by (own := [(("_law_odd" : Str), 9)]) (N := N__law_bents) (sc := d__law_bents.scope) (by decide +kernel)) (fun _ _ _ _ _ => pg_name (i := 9) sc__law_bents.nd rfl (by first | exact Or.inl rfl | exact Or.inr rfl)) (fun _ _ _ _ _ => pts_nil) (fun _ _ _ _ _ => (pe_tup (pa_cons (pv 2) (pa_cons (pv 9) (pa_cons (pe_ix ix_seq (pv 3) pe_int fun _ _ => rfl) pa_nil))))))))
  (pss_cons (ps_set (i := 4) sc__law_bents.nd rfl (Or.inl rfl) (pe_op op_add3 (pv 4) (pe_lc (own := [(("_law_odd" : Str), 9)]) (g := gName 9) rfl sc__law_bents.nd (pi_seq (pv 5)) (blkOk_by (own := [(("_law_odd" : Str), 9)]) (N := N__law_bents) (sc := d__law_bents.scope) (by decide +kernel)) (fun _ _ _ _ _ => pg_name (i := 9) sc__law_bents.nd rfl (by first | exact Or.inl rfl | exact Or.inr rfl)) (fun _ _ _ _ _ => pts_nil) (fun _ _ _ _ _ => (pe_tup (pa_cons (pv 2) (pa_cons (pe_ix ix_seq (pv 3) pe_int fun _ _ => rfl) (pa_cons (pv 9) pa_nil))))))))
  (pss_one (ps_set (i := 4) sc__law_bents.nd rfl (Or.inl rfl) (pe_op op_add3 (pv 4) (pe_lst (pa_cons (pe_tup (pa_cons (pv 2) (pa_cons (pv 3) pa_nil))) (pa_cons (pe_tup (pa_cons (pv 2) (pa_cons (pe_ix ix_seq (pv 3) pe_int fun _ _ => rfl) (pa_cons (pe_ix ix_seq (pv 3) pe_int fun _ _ => rfl) (pa_cons (pe_ix ix_seq (pv 3) pe_int fun _ _ => rfl) pa_nil))))) pa_nil)))))))) pss_nil)
  (pss_one (ps_ret (pv 4)))))))))))),
  (ss_seq (ss_asg (se_2 o_ix se_var se_int) sg_name)
  (ss_seq (ss_asg (se_sl se_var (so_some se_int) so_none) sg_name)
  (ss_seq (ss_asgO (sl_lst (sa_cons (se_l (sl_n o_list (sa_cons se_var sa_nil))) (sa_cons (se_2 o_add se_var (se_tup (sa_cons se_int sa_nil))) (sa_cons (se_2 o_add se_var (se_tup (sa_cons (se_tup sa_nil) sa_nil))) (sa_cons (se_sl se_var so_none (so_some (se_1 o_neg se_int))) (sa_cons (se_tup (sa_cons se_var sa_nil)) (sa_cons se_var (sa_cons (se_2 o_add (se_tup (sa_cons (se_upper se_var) sa_nil)) se_var) (sa_cons (se_l (sl_lst (sa_cons se_var sa_nil))) sa_nil))))))))))
  (ss_seq (ss_asgO (sl_2 o_addL se_var (se_l (sl_lst (sa_cons (se_2 o_add (se_tup (sa_cons (se_2 o_addS se_var se_str) sa_nil)) se_var) (sa_cons (se_2 o_add (se_tup (sa_cons se_str sa_nil)) se_var) (sa_cons (se_2 o_add (se_tup (sa_cons se_str sa_nil)) se_var) (sa_cons (se_2 o_add (se_tup (sa_cons se_non sa_nil)) se_var) (sa_cons (se_2 o_add (se_tup (sa_cons se_int sa_nil)) se_var) (sa_cons se_var sa_nil))))))))))
  (ss_seq (ss_app (se_2 o_add (se_tup (sa_cons (se_tup (sa_cons se_str sa_nil)) sa_nil)) se_var))
  (ss_seq (ss_asg (se_callD sa_nil) sg_name)
  (ss_seq (ss_if (st_or (st_test (se_2 o_eq se_var se_str)) (st_test (se_2 o_eq se_var se_str))) (ss_seq (ss_asg (se_2 o_ix se_var se_int) sg_name)
  (ss_seq (ss_asg (se_callM (sa_cons (se_2 o_add (se_n o_len (sa_cons se_var sa_nil)) se_int) sa_nil)) sg_name)
  (ss_seq (ss_asgO (sl_2 o_addL se_var (se_l (sl_lc (si_seq se_var) (by decide) sg_name st_yes (se_tup (sa_cons se_var (sa_cons (se_2 o_add (se_2 o_add (se_sl se_var so_none (so_some se_var)) (se_tup (sa_cons se_var sa_nil))) (se_sl se_var (so_some se_var) so_none)) sa_nil)))))))
  (ss_seq (ss_asgO (sl_2 o_addL se_var (se_l (sl_lst (sa_cons (se_tup (sa_cons se_var (sa_cons (se_l (sl_n o_list (sa_cons se_var sa_nil))) sa_nil))) (sa_cons (se_tup (sa_cons se_var (sa_cons se_non sa_nil))) (sa_cons (se_tup (sa_cons se_var (sa_cons se_bl sa_nil))) (sa_cons (se_tup (sa_cons se_var (sa_cons se_int sa_nil))) (sa_cons (se_tup (sa_cons se_var (sa_cons se_str sa_nil))) sa_nil)))))))))
  (ss_seq (ss_if (st_test (se_2 o_gt (se_n o_len (sa_cons se_var sa_nil)) se_int)) (ss_asgO (sl_2 o_addL se_var (se_l (sl_lst (sa_cons (se_tup (sa_cons se_var (sa_cons (se_2 o_add se_var (se_sl se_var (so_some (se_1 o_neg se_int)) so_none)) sa_nil))) (sa_cons (se_tup (sa_cons se_var (sa_cons (se_2 o_add (se_sl se_var so_none (so_some se_int)) se_var) sa_nil))) (sa_cons (se_tup (sa_cons se_var (sa_cons (se_2 o_add se_var (se_tup (sa_cons (se_2 o_ix se_var se_int) sa_nil))) sa_nil))) sa_nil))))))) ss_next)
  (ss_if (st_test (se_2 o_gt (se_n o_len (sa_cons se_var sa_nil)) se_int)) (ss_app (se_tup (sa_cons se_var (sa_cons (se_2 o_add (se_sl se_var (so_some se_int) so_none) (se_sl se_var so_none (so_some se_int))) sa_nil)))) ss_next)))))) ss_next)
  (ss_seq (ss_if (st_test (se_2 o_eq se_var se_str)) (ss_seq (ss_asg (se_2 o_ix se_var se_int) sg_name)
  (ss_seq (ss_asg (se_callM (sa_cons (se_n o_len (sa_cons se_var sa_nil)) sa_nil)) sg_name)
  (ss_seq (ss_asgO (sl_2 o_addL se_var (se_l (sl_lc (si_seq se_var) (by decide) sg_name st_yes (se_tup (sa_cons se_var (sa_cons (se_2 o_add (se_2 o_add (se_sl se_var so_none (so_some se_var)) (se_tup (sa_cons se_var sa_nil))) (se_sl se_var (so_some (se_2 o_add se_var se_int)) so_none)) (sa_cons (se_2 o_ix se_var se_int) sa_nil))))))))
  (ss_seq (ss_asgO (sl_2 o_addL se_var (se_l (sl_lc (si_seq (se_2 o_add se_var (se_l (sl_lst (sa_cons se_int (sa_cons (se_2 o_pow se_int se_int) sa_nil)))))) (by decide) sg_name st_yes (se_tup (sa_cons se_var (sa_cons se_var (sa_cons se_var sa_nil))))))))
  (ss_seq (ss_asgO (sl_2 o_addL se_var (se_l (sl_lst (sa_cons (se_tup (sa_cons se_var (sa_cons (se_tup sa_nil) (sa_cons (se_2 o_ix se_var se_int) sa_nil)))) (sa_cons (se_tup (sa_cons se_var (sa_cons (se_l (sl_n o_list (sa_cons se_var sa_nil))) (sa_cons (se_2 o_ix se_var se_int) sa_nil)))) (sa_cons (se_tup (sa_cons se_var (sa_cons (se_2 o_ix se_var se_int) (sa_cons se_var sa_nil)))) sa_nil)))))))
  (ss_asgO (sl_2 o_addL se_var (se_l (sl_lst (sa_cons (se_tup (sa_cons se_var (sa_cons (se_2 o_ix se_var se_int) (sa_cons (se_2 o_ix se_var se_int) sa_nil)))) (sa_cons (se_2 o_add (se_2 o_add (se_tup (sa_cons se_var sa_nil)) se_var) (se_tup (sa_cons (se_2 o_ix se_var se_int) (sa_cons se_int sa_nil)))) sa_nil))))))))))) ss_next)
  (ss_seq (ss_if (st_or (st_test (se_2 o_eq se_var se_str)) (st_or (st_test (se_2 o_eq se_var se_str)) (st_test (se_2 o_eq se_var se_str)))) (ss_seq (ss_asgO (sl_2 o_addL se_var (se_l (sl_lc (si_seq se_var) (by decide) sg_name st_yes (se_tup (sa_cons se_var (sa_cons se_var (sa_cons (se_2 o_ix se_var se_int) sa_nil))))))))
  (ss_seq (ss_asgO (sl_2 o_addL se_var (se_l (sl_lc (si_seq se_var) (by decide) sg_name st_yes (se_tup (sa_cons se_var (sa_cons (se_2 o_ix se_var se_int) (sa_cons se_var sa_nil))))))))
  (ss_asgO (sl_2 o_addL se_var (se_l (sl_lst (sa_cons (se_tup (sa_cons se_var (sa_cons se_var sa_nil))) (sa_cons (se_tup (sa_cons se_var (sa_cons (se_2 o_ix se_var se_int) (sa_cons (se_2 o_ix se_var se_int) (sa_cons (se_2 o_ix se_var se_int) sa_nil))))) sa_nil)))))))) ss_next)
  (ss_ret se_var))))))))))⟩
theorem cal__law_number (T : TX K mg) : CalG P w K mg base 1 d__law_number [("_law_thing" : Str)] (spP K mg M__law_number) := by
  have f_bool : mg "bool" = none := T.free "bool" (mem_at 68 rfl)
  have f_int : mg "int" = none := T.free "int" (mem_at 69 rfl)
  have f_isinstance : mg "isinstance" = none := T.free "isinstance" (mem_at 70 rfl)
  obtain ⟨fd, F0⟩ := T.says.def_ (d := d__law_number) (mem_at 59 rfl)
  have F : FunD K d__law_number.name d__law_number.qual d__law_number.params d__law_number.body d__law_number.scope [] [] (He.fAd K d__law_number.at_) fd := F0
  have B : Binds K fd [("_law_thing" : Str)] [] := F.bindsN fun _ _ _ _ _ _ us hl => match us, hl with | [_], _ => rfl
  have glo : mg d__law_number.name = some (.ref (He.fAd K d__law_number.at_)) := T.glo "_law_number" (mem_at 59 rfl)
  refine ⟨⟨fd, F, ?_, B⟩, glo⟩
  refine fnP_ok F sc__law_number (by decide) ?_
  intro cdv A outer s H E hgd hr
  exact ⟨_, (pss_one (ps_ret (pe_and (pe_callB call_isiM (by rfl) (by exact f_isinstance) boot_isinstance (pa_cons (pv 0) (pa_cons (pe_bltn (v := .ty (Ty.nm .int)) (by rfl) (by exact f_int) (by decide +kernel) rfl) pa_nil))) (pe_and (pe_not (pe_callB call_isiM (by rfl) (by exact f_isinstance) boot_isinstance (pa_cons (pv 0) (pa_cons (pe_bltn (v := .ty (Ty.nm .bool)) (by rfl) (by exact f_bool) (by decide +kernel) rfl) pa_nil)))) (pe_one (pe_cmpR (op_geG (room65 hr)) (pv 0) pe_int (nomark _))))))),
  (ss_ret (se_and (se_isi .int se_var) (se_and (se_not (se_isi .bool se_var)) (se_2 o_ge se_var se_int))))⟩
theorem cal__law_numbers (T : TX K mg) : CalG P w K mg base 2 d__law_numbers [("_law_thing" : Str)] (spP K mg M__law_numbers) := by
  have c__law_number : CalG P w K mg base 1 d__law_number [("_law_thing" : Str)] (spP K mg M__law_number) := cal__law_number T
  have f_isinstance : mg "isinstance" = none := T.free "isinstance" (mem_at 70 rfl)
  have f_tuple : mg "tuple" = none := T.free "tuple" (mem_at 78 rfl)
  obtain ⟨fd, F0⟩ := T.says.def_ (d := d__law_numbers) (mem_at 60 rfl)
  have F : FunD K d__law_numbers.name d__law_numbers.qual d__law_numbers.params d__law_numbers.body d__law_numbers.scope [] [] (He.fAd K d__law_numbers.at_) fd := F0
  have B : Binds K fd [("_law_thing" : Str)] [] := F.bindsN fun _ _ _ _ _ _ us hl => match us, hl with | [_], _ => rfl
  have glo : mg d__law_numbers.name = some (.ref (He.fAd K d__law_numbers.at_)) := T.glo "_law_numbers" (mem_at 60 rfl)
  refine ⟨⟨fd, F, ?_, B⟩, glo⟩
  refine fnP_ok F sc__law_numbers (by decide) ?_
  intro cdv A outer s H E hgd hr
  exact ⟨_, (pss_cons (ps_if (pt_not (pt_truth (pe_callB call_isiM (by rfl) (by exact f_isinstance) boot_isinstance (pa_cons (pv 0) (pa_cons (pe_bltn (v := .ty (Ty.nm .tup)) (by rfl) (by exact f_tuple) (by decide +kernel) rfl) pa_nil))) fun _ => rfl)) (pss_one (ps_ret pe_bl)) pss_nil)
  (pss_cons (ps_for (passes_of rfl) rfl (pi_seq (pv 0)) (pg_name (i := 1) sc__law_numbers.nd rfl (Or.inl rfl)) (pss_one (ps_if (pt_not (pt_truth (pe_cal c__law_number hgd hr (by decide) (passEN (L2N.takes_of rfl rfl rfl rfl)) (pa_cons (pv 1) pa_nil)) fun _ => rfl)) (pss_one (ps_ret pe_bl)) pss_nil)))
  (pss_one (ps_ret pe_bl)))),
  (ss_seq (ss_if (st_not (st_tru (se_isi .tup se_var))) (ss_ret se_bl) ss_next)
  (ss_seq (ss_for (si_seq se_var) sg_name (ss_if (st_not (st_tru (se_callD (sa_cons se_var sa_nil)))) (ss_ret se_bl) ss_next))
  (ss_ret se_bl)))⟩
theorem cal__law_rising (T : TX K mg) : CalG P w K mg base 3 d__law_rising [("_law_thing" : Str)] (spP K mg M__law_rising) := by
  have c__law_numbers : CalG P w K mg base 2 d__law_numbers [("_law_thing" : Str)] (spP K mg M__law_numbers) := cal__law_numbers T
  have f_len : mg "len" = none := T.free "len" (mem_at 71 rfl)
  have f_range : mg "range" = none := T.free "range" (mem_at 75 rfl)
  obtain ⟨fd, F0⟩ := T.says.def_ (d := d__law_rising) (mem_at 61 rfl)
  have F : FunD K d__law_rising.name d__law_rising.qual d__law_rising.params d__law_rising.body d__law_rising.scope [] [] (He.fAd K d__law_rising.at_) fd := F0
  have B : Binds K fd [("_law_thing" : Str)] [] := F.bindsN fun _ _ _ _ _ _ us hl => match us, hl with | [_], _ => rfl
  have glo : mg d__law_rising.name = some (.ref (He.fAd K d__law_rising.at_)) := T.glo "_law_rising" (mem_at 61 rfl)
  refine ⟨⟨fd, F, ?_, B⟩, glo⟩
  refine fnP_ok F sc__law_rising (by decide) ?_
  intro cdv A outer s H E hgd hr
  exact ⟨_, (pss_cons (ps_if (pt_not (pt_truth (pe_cal c__law_numbers hgd hr (by decide) (passEN (L2N.takes_of rfl rfl rfl rfl)) (pa_cons (pv 0) pa_nil)) fun _ => rfl)) (pss_one (ps_ret pe_bl)) pss_nil)
  (pss_cons (ps_for (passes_of rfl) rfl (pi_range1 (by rfl) (by exact f_range) (pa_cons (pe_op op_sub (pe_callB call_len_seq (by rfl) (by exact f_len) (by decide +kernel) (pa_cons (pv 0) pa_nil)) pe_int) pa_nil)) (pg_name (i := 1) sc__law_rising.nd rfl (Or.inl rfl)) (pss_one (ps_if (pt_cmpR (op_geG (room65 hr)) (pe_ix ix_seq (pv 0) (pv 1) fun _ _ => rfl) (pe_ix ix_seq (pv 0) (pe_op op_add3 (pv 1) pe_int) fun _ _ => rfl) (nomark _)) (pss_one (ps_ret pe_bl)) pss_nil)))
  (pss_one (ps_ret pe_bl)))),
  (ss_seq (ss_if (st_not (st_tru (se_callD (sa_cons se_var sa_nil)))) (ss_ret se_bl) ss_next)
  (ss_seq (ss_for (si_rng1 (sa_cons (se_2 o_sub (se_n o_len (sa_cons se_var sa_nil)) se_int) sa_nil)) sg_name (ss_if (st_test (se_2 o_ge (se_2 o_ix se_var se_var) (se_2 o_ix se_var (se_2 o_add se_var se_int)))) (ss_ret se_bl) ss_next))
  (ss_ret se_bl)))⟩
theorem cal__law_form (T : TX K mg) : CalG P w K mg base 4 d__law_form [("_law_thing" : Str)] (spP K mg M__law_form) := by
  have c__law_rising : CalG P w K mg base 3 d__law_rising [("_law_thing" : Str)] (spP K mg M__law_rising) := cal__law_rising T
  have c__law_number : CalG P w K mg base 1 d__law_number [("_law_thing" : Str)] (spP K mg M__law_number) := cal__law_number T
  have c__law_numbers : CalG P w K mg base 2 d__law_numbers [("_law_thing" : Str)] (spP K mg M__law_numbers) := cal__law_numbers T
  have f_isinstance : mg "isinstance" = none := T.free "isinstance" (mem_at 70 rfl)
  have f_len : mg "len" = none := T.free "len" (mem_at 71 rfl)
  have f_str : mg "str" = none := T.free "str" (mem_at 77 rfl)
  have f_tuple : mg "tuple" = none := T.free "tuple" (mem_at 78 rfl)
  obtain ⟨fd, F0⟩ := T.says.def_ (d := d__law_form) (mem_at 62 rfl)
  have F : FunD K d__law_form.name d__law_form.qual d__law_form.params d__law_form.body d__law_form.scope [] [] (He.fAd K d__law_form.at_) fd := F0
  have B : Binds K fd [("_law_thing" : Str)] [] := F.bindsN fun _ _ _ _ _ _ us hl => match us, hl with | [_], _ => rfl
  have glo : mg d__law_form.name = some (.ref (He.fAd K d__law_form.at_)) := T.glo "_law_form" (mem_at 62 rfl)
  refine ⟨⟨fd, F, ?_, B⟩, glo⟩
  refine fnP_ok F sc__law_form (by decide) ?_
  intro cdv A outer s H E hgd hr
  exact ⟨_, (pss_cons (ps_if (PW.pt (pw_or (pt_not (pt_truth (pe_callB call_isiM (by rfl) (by exact f_isinstance) boot_isinstance (pa_cons (pv 0) (pa_cons (pe_bltn (v := .ty (Ty.nm .tup)) (by rfl) (by exact f_tuple) (by decide +kernel) rfl) pa_nil))) fun _ => rfl)) (pw_or (pt_cmpR (op_eqG (room65 hr)) (pe_callB call_len_seq (by rfl) (by exact f_len) (by decide +kernel) (pa_cons (pv 0) pa_nil)) pe_int (nomark _)) (pw_or1 (pt_not (pt_truth (pe_callB call_isiM (by rfl) (by exact f_isinstance) boot_isinstance (pa_cons (pe_ix ix_seq (pv 0) pe_int fun _ _ => rfl) (pa_cons (pe_bltn (v := .ty (Ty.nm .str)) (by rfl) (by exact f_str) (by decide +kernel) rfl) pa_nil))) fun _ => rfl)))))) (pss_one (ps_ret pe_bl)) pss_nil)
  (pss_cons (ps_set (i := 1) sc__law_form.nd rfl (Or.inl rfl) (pe_ix ix_seq (pv 0) pe_int fun _ _ => rfl))
  (pss_cons (ps_if (PW.pt (pw_or (pt_cmpR (op_eqG (room65 hr)) (pv 1) pe_str (nomark _)) (pw_or1 (pt_cmpR (op_eqG (room65 hr)) (pv 1) pe_str (nomark _))))) (pss_one (ps_ret (pe_and (pe_cmpR (op_eqG (room65 hr)) (pe_callB call_len_seq (by rfl) (by exact f_len) (by decide +kernel) (pa_cons (pv 0) pa_nil)) pe_int (nomark _)) (pe_one (pe_cal c__law_rising hgd hr (by decide) (passEN (L2N.takes_of rfl rfl rfl rfl)) (pa_cons (pe_ix ix_seq (pv 0) pe_int fun _ _ => rfl) pa_nil)))))) pss_nil)
  (pss_cons (ps_if (pt_cmpR (op_eqG (room65 hr)) (pv 1) pe_str (nomark _)) (pss_cons (ps_if (PW.pt (pw_or (pt_cmpR (op_neG (room65 hr)) (pe_callB call_len_seq (by rfl) (by exact f_len) (by decide +kernel) (pa_cons (pv 0) pa_nil)) pe_int (nomark _)) (pw_or (pt_not (pt_truth (pe_cal c__law_numbers hgd hr (by decide) (passEN (L2N.takes_of rfl rfl rfl rfl)) (pa_cons (pe_ix ix_seq (pv 0) pe_int fun _ _ => rfl) pa_nil)) fun _ => rfl)) (pw_or1 (pt_cmpR (op_eqG (room65 hr)) (pe_callB call_len_seq (by rfl) (by exact f_len) (by decide +kernel) (pa_cons (pe_ix ix_seq (pv 0) pe_int fun _ _ => rfl) pa_nil)) pe_int (nomark _)))))) (pss_one (ps_ret pe_bl)) pss_nil)
  (pss_one (ps_ret (pe_and (pe_cal c__law_number hgd hr (by decide) (passEN (L2N.takes_of rfl rfl rfl rfl)) (pa_cons (pe_ix ix_seq (pv 0) pe_int fun _ _ => rfl) pa_nil)) (pe_one (pe_cmpR (op_ltG (room65 hr)) (pe_ix ix_seq (pv 0) pe_int fun _ _ => rfl) pe_int (nomark _))))))) pss_nil)
  (pss_cons (ps_if (PW.pt (pw_or (pt_cmpR (op_eqG (room65 hr)) (pv 1) pe_str (nomark _)) (pw_or (pt_cmpR (op_eqG (room65 hr)) (pv 1) pe_str (nomark _)) (pw_or1 (pt_cmpR (op_eqG (room65 hr)) (pv 1) pe_str (nomark _)))))) (pss_one (ps_ret (pe_and (pe_cmpR (op_eqG (room65 hr)) (pe_callB call_len_seq (by rfl) (by exact f_len) (by decide +kernel) (pa_cons (pv 0) pa_nil)) pe_int (nomark _)) (pe_and (pe_cal c__law_number hgd hr (by decide) (passEN (L2N.takes_of rfl rfl rfl rfl)) (pa_cons (pe_ix ix_seq (pv 0) pe_int fun _ _ => rfl) pa_nil)) (pe_one (pe_cal c__law_number hgd hr (by decide) (passEN (L2N.takes_of rfl rfl rfl rfl)) (pa_cons (pe_ix ix_seq (pv 0) pe_int fun _ _ => rfl) pa_nil))))))) pss_nil)
  (pss_one (ps_ret (pe_and (pe_cmpR (op_eqG (room65 hr)) (pv 1) pe_str (nomark _)) (pe_one (pe_cmpR (op_eqG (room65 hr)) (pe_callB call_len_seq (by rfl) (by exact f_len) (by decide +kernel) (pa_cons (pv 0) pa_nil)) pe_int (nomark _))))))))))),
  (ss_seq (ss_if (st_or (st_not (st_tru (se_isi .tup se_var))) (st_or (st_test (se_2 o_eq (se_n o_len (sa_cons se_var sa_nil)) se_int)) (st_not (st_tru (se_isi .str (se_2 o_ix se_var se_int)))))) (ss_ret se_bl) ss_next)
  (ss_seq (ss_asg (se_2 o_ix se_var se_int) sg_name)
  (ss_seq (ss_if (st_or (st_test (se_2 o_eq se_var se_str)) (st_test (se_2 o_eq se_var se_str))) (ss_ret (se_and (se_2 o_eq (se_n o_len (sa_cons se_var sa_nil)) se_int) (se_callD (sa_cons (se_2 o_ix se_var se_int) sa_nil)))) ss_next)
  (ss_seq (ss_if (st_test (se_2 o_eq se_var se_str)) (ss_seq (ss_if (st_or (st_test (se_2 o_ne (se_n o_len (sa_cons se_var sa_nil)) se_int)) (st_or (st_not (st_tru (se_callD (sa_cons (se_2 o_ix se_var se_int) sa_nil)))) (st_test (se_2 o_eq (se_n o_len (sa_cons (se_2 o_ix se_var se_int) sa_nil)) se_int)))) (ss_ret se_bl) ss_next)
  (ss_ret (se_and (se_callD (sa_cons (se_2 o_ix se_var se_int) sa_nil)) (se_2 o_lt (se_2 o_ix se_var se_int) se_int)))) ss_next)
  (ss_seq (ss_if (st_or (st_test (se_2 o_eq se_var se_str)) (st_or (st_test (se_2 o_eq se_var se_str)) (st_test (se_2 o_eq se_var se_str)))) (ss_ret (se_and (se_2 o_eq (se_n o_len (sa_cons se_var sa_nil)) se_int) (se_and (se_callD (sa_cons (se_2 o_ix se_var se_int) sa_nil)) (se_callD (sa_cons (se_2 o_ix se_var se_int) sa_nil))))) ss_next)
  (ss_ret (se_and (se_2 o_eq se_var se_str) (se_2 o_eq (se_n o_len (sa_cons se_var sa_nil)) se_int))))))))⟩
theorem cal_law (T : TX K mg) : CalG P w K mg base 14 d_law [("_law_script" : Str)] (spP K mg M_law) := by
  have c__law_feed : CalG P w K mg base 1 d__law_feed [("_law_script" : Str)] (spO K mg M__law_feed) := cal__law_feed T
  have c__law_draw : CalG P w K mg base 1 d__law_draw [("_law_feed_here" : Str), ("_law_many" : Str)] (spD K mg M__law_draw) := cal__law_draw T
  have c__law_is_log : CalG P w K mg base 11 d__law_is_log [("_law_thing" : Str), ("_law_due" : Str)] (spP K mg M__law_is_log) := cal__law_is_log T
  have c__law_by_hand : CalG P w K mg base 8 d__law_by_hand [] (spP K mg M__law_by_hand) := cal__law_by_hand T
  have c__law_good : CalG P w K mg base 3 d__law_good [("_law_feed_here" : Str)] (spD K mg M__law_good) := cal__law_good T
  have c__law_any : CalG P w K mg base 8 d__law_any [("_law_feed_here" : Str), ("_law_depth" : Str)] (spD K mg M__law_any) := cal__law_any T
  have c__law_log_by_hand : CalG P w K mg base 13 d__law_log_by_hand [("_law_goods" : Str)] (spP K mg M__law_log_by_hand) := cal__law_log_by_hand T
  have c__law_reasons : CalG P w K mg base 12 d__law_reasons [] (spP K mg M__law_reasons) := cal__law_reasons T
  have c__law_refused : CalG P w K mg base 12 d__law_refused [] (spP K mg M__law_refused) := cal__law_refused T
  have c__law_bents : CalG P w K mg base 2 d__law_bents [("_law_feed_here" : Str), ("_law_event" : Str)] (spD K mg M__law_bents) := cal__law_bents T
  have c__law_told : CalG P w K mg base 7 d__law_told [("_law_thing" : Str), ("_law_due" : Str)] (spP K mg M__law_told) := cal__law_told T
  have c__law_form : CalG P w K mg base 4 d__law_form [("_law_thing" : Str)] (spP K mg M__law_form) := cal__law_form T
  have f_len : mg "len" = none := T.free "len" (mem_at 71 rfl)
  have f_range : mg "range" = none := T.free "range" (mem_at 75 rfl)
  have f_repr : mg "repr" = none := T.free "repr" (mem_at 76 rfl)
  have f_tuple : mg "tuple" = none := T.free "tuple" (mem_at 78 rfl)
  obtain ⟨fd, F0⟩ := T.says.def_ (d := d_law) (mem_at 63 rfl)
  have F : FunD K d_law.name d_law.qual d_law.params d_law.body d_law.scope [] [] (He.fAd K d_law.at_) fd := F0
  have B : Binds K fd [("_law_script" : Str)] [] := F.bindsN fun _ _ _ _ _ _ us hl => match us, hl with | [_], _ => rfl
  have glo : mg d_law.name = some (.ref (He.fAd K d_law.at_)) := T.glo "law" (mem_at 63 rfl)
  refine ⟨⟨fd, F, ?_, B⟩, glo⟩
  refine fnP_ok F sc_law (by decide) ?_
  intro cdv A outer s H E hgd hr
  exact ⟨_, (pss_cons (ps_set (i := 1) sc_law.nd rfl (Or.inr rfl) (pe_cal c__law_feed hgd hr (by decide) (passEN (L2N.takes_of rfl rfl rfl rfl)) (pa_cons (pv 0) pa_nil)))
  (pss_cons (ps_if (pt_not (pt_truth (pe_calE c__law_by_hand hgd hr (by decide) (passEN (L2N.takes_of rfl rfl rfl rfl))) fun _ => rfl)) (pss_one (ps_ret pe_bl)) pss_nil)
  (pss_cons (ps_setLc (i := 2) (own := [(("_law_k" : Str), 6)]) (g := gName 6) rfl sc_law.nd rfl rfl (sw_true rfl rfl rfl (by decide +kernel)) (pi_range1 (by rfl) (by exact f_range) (pa_cons pe_int pa_nil)) (blkOk_by (own := [(("_law_k" : Str), 6)]) (N := N_law) (sc := d_law.scope) (by decide +kernel)) (fun _ _ _ _ _ => pg_name (i := 6) sc_law.nd rfl (by first | exact Or.inl rfl | exact Or.inr rfl)) (fun _ _ _ _ _ => pts_nil) (fun _ _ _ _ _ => (pe_cal c__law_good hgd hr (by decide) passF (pa_cons (pv 1) pa_nil))))
  (pss_cons (ps_set (i := 3) sc_law.nd rfl (Or.inl rfl) (pe_lst pa_nil))
  (pss_cons (ps_for (passes_of rfl) rfl (pi_seq (pv 2)) (pg_name (i := 4) sc_law.nd rfl (Or.inl rfl)) (pss_cons (ps_if (PW.pt (pw_or (pt_not (pt_truth (pe_cal c__law_form hgd hr (by decide) (passEN (L2N.takes_of rfl rfl rfl rfl)) (pa_cons (pv 4) pa_nil)) fun _ => rfl)) (pw_or1 (pt_not (pt_truth (pe_cal c__law_told hgd hr (by decide) (passEN (L2N.takes_of rfl rfl rfl rfl)) (pa_cons (pv 4) (pa_cons pe_bl pa_nil))) fun _ => rfl))))) (pss_one (ps_ret pe_bl)) pss_nil)
  (pss_one (ps_set (i := 3) sc_law.nd rfl (Or.inl rfl) (pe_op op_add3 (pv 3) (pe_cal c__law_bents hgd hr (by decide) (passEN (L2N.takes_of rfl rfl rfl rfl)) (pa_cons (pv 1) (pa_cons (pv 4) pa_nil))))))))
  (pss_cons (ps_for (passes_of rfl) rfl (pi_seq (pv 3)) (pg_name (i := 5) sc_law.nd rfl (Or.inl rfl)) (pss_one (ps_if (pt_not (pt_truth (pe_cal c__law_told hgd hr (by decide) (passEN (L2N.takes_of rfl rfl rfl rfl)) (pa_cons (pv 5) (pa_cons pe_bl pa_nil))) fun _ => rfl)) (pss_one (ps_ret pe_bl)) pss_nil)))
  (pss_cons (ps_for (passes_of rfl) rfl (pi_range1 (by rfl) (by exact f_range) (pa_cons pe_int pa_nil)) (pg_name (i := 6) sc_law.nd rfl (Or.inl rfl)) (pss_cons (ps_set (i := 10) sc_law.nd rfl (Or.inl rfl) (pe_cal c__law_any hgd hr (by decide) (passEN (L2N.takes_of rfl rfl rfl rfl)) (pa_cons (pv 1) (pa_cons pe_int pa_nil))))
  (pss_cons (ps_set (i := 11) sc_law.nd rfl (Or.inl rfl) (pe_callB (call_reprG hgd (room65 hr)) (by rfl) (by exact f_repr) (by decide +kernel) (pa_cons (pv 10) pa_nil)))
  (pss_one (ps_if (PW.pt (pw_or (pt_not (pt_truth (pe_cal c__law_told hgd hr (by decide) (passEN (L2N.takes_of rfl rfl rfl rfl)) (pa_cons (pv 10) (pa_cons (pe_cal c__law_form hgd hr (by decide) (passEN (L2N.takes_of rfl rfl rfl rfl)) (pa_cons (pv 10) pa_nil)) pa_nil))) fun _ => rfl)) (pw_or1 (pt_cmpR (op_neG (room65 hr)) (pe_callB (call_reprG hgd (room65 hr)) (by rfl) (by exact f_repr) (by decide +kernel) (pa_cons (pv 10) pa_nil)) (pv 11) (nomark _))))) (pss_one (ps_ret pe_bl)) pss_nil)))))
  (pss_cons (ps_set (i := 7) sc_law.nd rfl (Or.inl rfl) (pe_callTy call_tuple_of (by rfl) (by exact f_tuple) (by decide +kernel) (pa_cons (pv 2) pa_nil)))
  (pss_cons (ps_set (i := 8) sc_law.nd rfl (Or.inl rfl) (pe_tup (pa_cons pe_str (pa_cons (pe_tup (pa_cons (pe_tup (pa_cons pe_int (pa_cons pe_int pa_nil))) (pa_cons (pe_tup (pa_cons (pe_tup (pa_cons pe_int pa_nil)) (pa_cons (pe_tup (pa_cons pe_int pa_nil)) pa_nil))) pa_nil))) (pa_cons (pe_tup (pa_cons (pe_tup (pa_cons pe_int (pa_cons pe_int pa_nil))) pa_nil)) (pa_cons (pe_tup (pa_cons pe_int (pa_cons pe_int (pa_cons pe_int (pa_cons pe_int pa_nil))))) pa_nil))))))
  (pss_cons (ps_for (passes_of rfl) rfl (pi_range1 (by rfl) (by exact f_range) (pa_cons pe_int pa_nil)) (pg_name (i := 6) sc_law.nd rfl (Or.inl rfl)) (pss_cons (ps_set (i := 5) sc_law.nd rfl (Or.inl rfl) (pe_ix ix_seq (pv 3) (pe_cal c__law_draw hgd hr (by decide) (passEN (L2N.takes_of rfl rfl rfl rfl)) (pa_cons (pv 1) (pa_cons (pe_callB call_len_seq (by rfl) (by exact f_len) (by decide +kernel) (pa_cons (pv 3) pa_nil)) pa_nil))) fun _ _ => rfl))
  (pss_cons (ps_set (i := 12) sc_law.nd rfl (Or.inl rfl) (pe_cal c__law_draw hgd hr (by decide) (passEN (L2N.takes_of rfl rfl rfl rfl)) (pa_cons (pv 1) (pa_cons pe_int pa_nil))))
  (pss_one (ps_if (pt_not (pt_truth (pe_cal c__law_is_log hgd hr (by decide) (passEN (L2N.takes_of rfl rfl rfl rfl)) (pa_cons (pe_op op_add3 (pe_op op_add3 (pe_op op_add3 (pe_tup (pa_cons (pv 8) pa_nil)) (pe_slice slr_2 (pv 7) po_none (po_some (pv 12)))) (pe_tup (pa_cons (pv 5) pa_nil))) (pe_slice slr_2 (pv 7) (po_some (pv 12)) po_none)) (pa_cons pe_bl pa_nil))) fun _ => rfl)) (pss_one (ps_ret pe_bl)) pss_nil)))))
  (pss_cons (ps_set (i := 9) sc_law.nd rfl (Or.inl rfl) (pe_cal c__law_draw hgd hr (by decide) (passEN (L2N.takes_of rfl rfl rfl rfl)) (pa_cons (pv 1) (pa_cons pe_int pa_nil))))
  (pss_cons (ps_if (pt_cmpR (op_eqG (room65 hr)) (pe_callB call_len_seq (by rfl) (by exact f_len) (by decide +kernel) (pa_cons (pv 0) pa_nil)) pe_int (nomark _)) (pss_one (ps_ret (pe_and (pe_cal c__law_log_by_hand hgd hr (by decide) (passEN (L2N.takes_of rfl rfl rfl rfl)) (pa_cons (pv 7) pa_nil)) (pe_and (pe_calE c__law_reasons hgd hr (by decide) (passEN (L2N.takes_of rfl rfl rfl rfl))) (pe_one (pe_calE c__law_refused hgd hr (by decide) (passEN (L2N.takes_of rfl rfl rfl rfl)))))))) pss_nil)
  (pss_cons (ps_if (pt_cmpR (op_eqG (room65 hr)) (pv 9) pe_int (nomark _)) (pss_one (ps_ret (pe_cal c__law_log_by_hand hgd hr (by decide) (passEN (L2N.takes_of rfl rfl rfl rfl)) (pa_cons (pv 7) pa_nil)))) pss_nil)
  (pss_cons (ps_if (pt_cmpR (op_eqG (room65 hr)) (pv 9) pe_int (nomark _)) (pss_one (ps_ret (pe_calE c__law_reasons hgd hr (by decide) (passEN (L2N.takes_of rfl rfl rfl rfl))))) pss_nil)
  (pss_cons (ps_if (pt_cmpR (op_eqG (room65 hr)) (pv 9) pe_int (nomark _)) (pss_one (ps_ret (pe_calE c__law_refused hgd hr (by decide) (passEN (L2N.takes_of rfl rfl rfl rfl))))) pss_nil)
  (pss_one (ps_ret (pe_cal c__law_is_log hgd hr (by decide) (passEN (L2N.takes_of rfl rfl rfl rfl)) (pa_cons (pe_op op_add3 (pe_tup (pa_cons (pv 8) pa_nil)) (pv 7)) (pa_cons pe_bl pa_nil)))))))))))))))))))),
  (ss_seq (ss_asgD (sl_callO (sa_cons se_var sa_nil)))
  (ss_seq (ss_if (st_not (st_tru (se_callD sa_nil))) (ss_ret se_bl) ss_next)
  (ss_seq (ss_asg (se_l (sl_lc (si_rng1 (sa_cons se_int sa_nil)) (by decide) sg_name st_yes (se_callM sa_nil))) sg_name)
  (ss_seq (ss_asg (se_l (sl_lst sa_nil)) sg_name)
  (ss_seq (ss_for (si_seq se_var) sg_name (ss_seq (ss_if (st_or (st_not (st_tru (se_callD (sa_cons se_var sa_nil)))) (st_not (st_tru (se_callD (sa_cons se_var (sa_cons se_bl sa_nil)))))) (ss_ret se_bl) ss_next)
  (ss_asg (se_2 o_add se_var (se_callM (sa_cons se_var sa_nil))) sg_name)))
  (ss_seq (ss_for (si_seq se_var) sg_name (ss_if (st_not (st_tru (se_callD (sa_cons se_var (sa_cons se_bl sa_nil))))) (ss_ret se_bl) ss_next))
  (ss_seq (ss_for (si_rng1 (sa_cons se_int sa_nil)) sg_name (ss_seq (ss_asg (se_callM (sa_cons se_int sa_nil)) sg_name)
  (ss_seq (ss_asg (se_n o_repr (sa_cons se_var sa_nil)) sg_name)
  (ss_if (st_or (st_not (st_tru (se_callD (sa_cons se_var (sa_cons (se_callD (sa_cons se_var sa_nil)) sa_nil))))) (st_test (se_2 o_ne (se_n o_repr (sa_cons se_var sa_nil)) se_var))) (ss_ret se_bl) ss_next))))
  (ss_seq (ss_asg (se_n o_tuple (sa_cons se_var sa_nil)) sg_name)
  (ss_seq (ss_asg (se_tup (sa_cons se_str (sa_cons (se_tup (sa_cons (se_tup (sa_cons se_int (sa_cons se_int sa_nil))) (sa_cons (se_tup (sa_cons (se_tup (sa_cons se_int sa_nil)) (sa_cons (se_tup (sa_cons se_int sa_nil)) sa_nil))) sa_nil))) (sa_cons (se_tup (sa_cons (se_tup (sa_cons se_int (sa_cons se_int sa_nil))) sa_nil)) (sa_cons (se_tup (sa_cons se_int (sa_cons se_int (sa_cons se_int (sa_cons se_int sa_nil))))) sa_nil))))) sg_name)
  (ss_seq (ss_for (si_rng1 (sa_cons se_int sa_nil)) sg_name (ss_seq (ss_asg (se_2 o_ix se_var (se_callM (sa_cons (se_n o_len (sa_cons se_var sa_nil)) sa_nil))) sg_name)
  (ss_seq (ss_asg (se_callM (sa_cons se_int sa_nil)) sg_name)
  (ss_if (st_not (st_tru (se_callD (sa_cons (se_2 o_add (se_2 o_add (se_2 o_add (se_tup (sa_cons se_var sa_nil)) (se_sl se_var so_none (so_some se_var))) (se_tup (sa_cons se_var sa_nil))) (se_sl se_var (so_some se_var) so_none)) (sa_cons se_bl sa_nil))))) (ss_ret se_bl) ss_next))))
  (ss_seq (ss_asg (se_callM (sa_cons se_int sa_nil)) sg_name)
  (ss_seq (ss_if (st_test (se_2 o_eq (se_n o_len (sa_cons se_var sa_nil)) se_int)) (ss_ret (se_and (se_callD (sa_cons se_var sa_nil)) (se_and (se_callD sa_nil) (se_callD sa_nil)))) ss_next)
  (ss_seq (ss_if (st_test (se_2 o_eq se_var se_int)) (ss_ret (se_callD (sa_cons se_var sa_nil))) ss_next)
  (ss_seq (ss_if (st_test (se_2 o_eq se_var se_int)) (ss_ret (se_callD sa_nil)) ss_next)
  (ss_seq (ss_if (st_test (se_2 o_eq se_var se_int)) (ss_ret (se_callD sa_nil)) ss_next)
  (ss_ret (se_callD (sa_cons (se_2 o_add (se_tup (sa_cons se_var sa_nil)) se_var) (sa_cons se_bl sa_nil)))))))))))))))))))⟩
end
end K42
end
section
set_option Elab.async false
set_option linter.all false
set_option maxRecDepth 100000
set_option maxHeartbeats 4000000
namespace Mir
open PySem PySem.Spec PyProof.Rows L2
def frM {α : Type} (n : Nat) (k : Nat → α) : α := match n with
  | 0 => k 0
  | m + 1 => k (m + 1)
/-- what is new among as: mask tells what was met -/
def newA : List Addr → Nat → List Addr → (Nat → List Addr → List Addr) → List Addr
  | [], mk, acc, k => k mk acc
  | a :: as, mk, acc, k => frM a fun a => match Nat.land 1 (Nat.shiftRight mk a) with
    | 0 => frM (Nat.lor mk (Nat.shiftLeft 1 a)) fun mk' => newA as mk' (a :: acc) k
    | _ + 1 => newA as mk acc k
def refsG (g : Addr → Option Obj) (as : List Addr) : List Addr := as.flatMap fun a => match g a with
  | some o => He.refsD o
  | none => []
def walkA (g : Addr → Option Obj) : Nat → Nat → List Addr → List Addr
  | 0, _, fr => fr
  | n + 1, mk, fr => newA (refsG g fr) mk [] fun mk' new => fr ++ walkA g n mk' new
def asW (g : Addr → Option Obj) (n : Nat) : List Addr := walkA g n (Nat.shiftLeft 1 mainGlobals) [mainGlobals]
theorem map3 {S A B C : Type} {o : Option S} {f : S → A} {g : S → B} {h : S → C} {a : A} {b : B} {c : C} (h1 : o.map f = some a) (h2 : o.map g = some b) (h3 : o.map h = some c) : o.map (fun s => (f s, g s, h s)) = some (a, b, c) := by
  cases o with
  | none => cases h1
  | some s =>
    cases h1
    cases h2
    cases h3
    rfl
end Mir
namespace Mir
open PySem PySem.W PySem.Calls PyProof.Rows HandSHeadRun
def LooksEq (r : OpenRow) (M : Nat) (w : World) : Prop := ∀ os : OsState, (endF (stepQ (denQ tabQ) r.prog w) M r.prog w os).map (fun s => looksF r.prog (boot_heap w.params) s.abs) = some true
def SeenEq (r : OpenRow) (q : Program) (M : Nat) (loose : List PySem.Str) (w : World) : Prop := ∀ os : OsState, (endF (stepQ (denQ tabQ) r.prog w) M r.prog w os).map (fun s => seenQ q loose (importedModules r.prog.main.body) (fun s => xlAt q [] s && recOk r.toRowW.records s) s.abs) = some (openGood q loose)
def ObsEq (r : OpenRow) (H : Hook) (ob : SharedT → H.α) (M : Nat) (w : World) : Prop := ∀ os : OsState, (endF (stepQ (denQ tabQ) r.prog w) M r.prog w os).map (fun s => ob s) = some (H.val w)
/-- the run's equation out of its three parts -/
theorem runEq_of {r : OpenRow} {q : Program} {H : Hook} {ob : SharedT → H.α} {M : Nat} {loose : List PySem.Str} {w : World}
    (h1 : LooksEq r M w) (h2 : SeenEq r q M loose w) (h3 : ObsEq r H ob M w) : RunEq r q H ob M loose w := fun os => map3 (h1 os) (h2 os) (h3 os)
end Mir
end
section
set_option Elab.async false
set_option linter.all false
set_option maxRecDepth 100000
set_option maxHeartbeats 4000000
namespace Mir
open PySem PySem.Spec PyProof.Rows L2
abbrev AlT2 : Type := AlM × List (Option (List (Option (Str × Int))))
/-- a table's place and keys -/
def tabH (p : Str × List (Str × Int)) : He.Tab := (fun K => He.ga K p.1, p.2.map (·.1))
def obsT2 (fa : List He.Fa) (fn : List He.DefD) (ys : List YesNo) (ts : List He.Tab) (K : PySem.W.Frag) : AlT2 := (obsM fa fn ys K, ts.map fun t => He.dicW K (t.1 K))
def valT2 (fn : List He.DefD) (ts : List He.Tab) (w : World) : AlT2 := (valM fn, ts.map fun t => some (He.keysIn w.params t.2))
def SaysT2 (fa : List He.Fa) (fn : List He.DefD) (ys : List YesNo) (ts : List He.Tab) (w : World) (K : PySem.W.Frag) : Prop := obsT2 fa fn ys ts K = valT2 fn ts w
def obsNT (n : Nat) (fa : List He.Fa) (fn : List He.DefD) (ys : List YesNo) (ts : List He.Tab) (g : Addr → Option Obj) : AlT2 := obsT2 fa fn ys ts (He.frG g (asW g n))
def hookT2 (n : Nat) (fa : List He.Fa) (fn : List He.DefD) (ys : List YesNo) (ts : List He.Tab) : PySem.W.Hook where
  α := AlT2
  obs := fun s => obsNT n fa fn ys ts s.heap.get?
  val := fun w => valT2 fn ts w
  says := fun w h => ∃ K : PySem.W.Frag, K.In h ∧ SaysT2 fa fn ys ts w K
  of := fun _ _ e => ⟨_, He.frG_in, e⟩
  keeps := fun _ _ _ ⟨K, hK, c⟩ k => ⟨K, PySem.W.Frag.In.keeps hK k, c⟩
theorem obsNT_eq {n : Nat} {fa : List He.Fa} {fn : List He.DefD} {ys : List YesNo} {ts : List He.Tab} {g : Addr → Option Obj} {s : Shared} (h : ∀ a, g a = s.heap.get? a) : obsNT n fa fn ys ts g = (hookT2 n fa fn ys ts).obs s := by
  have e : g = s.heap.get? := funext h
  rw [e]
  rfl
section
variable {fa : List He.Fa} {fn : List He.DefD} {ys : List YesNo} {ts : List He.Tab} {w : World} {K : PySem.W.Frag} {mg : Str → Option Value} {h : Heap}
theorem SaysT2.d (c : SaysT2 fa fn ys ts w K) : SaysM fa fn ys K := congrArg (fun z : AlT2 => z.1) c
theorem SaysT2.tab (c : SaysT2 fa fn ys ts w K) {t : He.Tab} (ht : t ∈ ts) : He.dicW K (t.1 K) = some (He.keysIn w.params t.2) := by
  have e : ts.map (fun t => He.dicW K (t.1 K)) = ts.map fun t => some (He.keysIn w.params t.2) := congrArg (fun z : AlT2 => z.2) c
  obtain ⟨i, hi, rfl⟩ := List.getElem_of_mem ht
  have e2 : (ts.map fun t => He.dicW K (t.1 K))[i]? = (ts.map fun t => some (He.keysIn w.params t.2))[i]? := by rw [e]
  rw [List.getElem?_map, List.getElem?_map, List.getElem?_eq_getElem hi] at e2
  exact Option.some.inj e2
theorem gx_of {ic : List (Str × Int)} {sc : List (Str × Str)} {tc : List (Str × List (Str × Int))} (X : K.In h) (G : h.Ns mainGlobals mg) (c : SaysT2 fa fn ys (tc.map tabH) w K)
    (h1 : ∀ p ∈ ic, He.Fa.int p.1 p.2 ∈ fa) (h2 : ∀ p ∈ sc, He.Fa.str p.1 p.2 ∈ fa) (h3 : ∀ p ∈ tc, He.Fa.glo p.1 ∈ fa ∧ tabY p.1 p.2 ∈ ys) : Gx ic sc tc K mg w where
  ci := fun p hp => He.int_ok X G (c.d.fact (h1 p hp))
  cs := fun p hp => He.str_ok X G (c.d.fact (h2 p hp))
  tb := fun p hp => ⟨⟨c.tab (List.mem_map.mpr ⟨p, hp, rfl⟩), c.d.own (h3 p hp).2⟩, He.glo_ok X G (c.d.fact (h3 p hp).1)⟩
end
end Mir
end
section
set_option Elab.async false
set_option linter.all false
set_option maxRecDepth 100000
set_option maxHeartbeats 4000000
namespace Mir
open PySem PySem.Spec PyProof.Rows L2
def Wp (x : Rs (Fl × En)) (Q : Fl → En → Prop) : Prop := ∃ fl en, x = .ok (fl, en) ∧ Q fl en
def Th (b : Sm) (Q : Fl → En → Prop) : Fl → En → Prop := fun fl en => match fl with
  | .nx => Wp (b en) Q
  | f => Q f en
def Is (d : D) : Fl → En → Prop := fun fl _ => match fl with
  | .rt r => r = d
  | .nx => d = .none
  | _ => False
/-- what a lap may end with -/
def Lap (N : En → Prop) (Q : Fl → En → Prop) : Fl → En → Prop := fun fl en => match fl with
  | .nx => N en
  | .ct => N en
  | .bk => Q .nx en
  | .rt d => Q (.rt d) en
section
variable {Q Q' : Fl → En → Prop} {en en1 en2 : En} {a b c : Sm}
theorem wp_seq (h : a en = .ok (.nx, en1)) (k : Wp (b en1) Q) : Wp (mSeq a b en) Q := by rw [mSeq_nx h]; exact k
theorem wp_bind (h : Wp (a en) (Th b Q)) : Wp (mSeq a b en) Q := by
  obtain ⟨fl, en1, h1, h2⟩ := h
  rw [mSeq_ap, h1, bind_ok]
  cases fl with
  | nx => exact h2
  | bk => exact ⟨_, _, rfl, h2⟩
  | ct => exact ⟨_, _, rfl, h2⟩
  | rt d => exact ⟨_, _, rfl, h2⟩
theorem wp_if {t : Mir.Tm} {x : Bool} (h : t en = .ok (x, en1)) (h1 : x = true → Wp (a en1) Q) (h0 : x = false → Wp (b en1) Q) : Wp (mIf t a b en) Q := by
  rw [mIf_ap, h, bind_ok]
  cases x with
  | true => rw [if_pos rfl]; exact h1 rfl
  | false => rw [if_neg Bool.false_ne_true]; exact h0 rfl
theorem wp_ifs {t : Mir.Tm} {x : Bool} (h : t en = .ok (x, en1)) (h1 : x = true → Wp (a en1) (Th c Q)) (h0 : x = false → Wp (b en1) (Th c Q)) : Wp (mSeq (mIf t a b) c en) Q := wp_bind (wp_if h h1 h0)
/-- a test that leads out, or not -/
theorem wp_out {t : Mir.Tm} {x : Bool} {m : Em} {d : D} (h : t en = .ok (x, en1)) (h1 : x = true → m en1 = .ok (d, en2) ∧ Q (.rt d) en2) (h0 : x = false → Wp (c en1) Q) : Wp (mSeq (mIf t (mRet m) mNext) c en) Q := by
  refine wp_ifs h (fun e => ?_) (fun e => ⟨_, _, rfl, h0 e⟩)
  obtain ⟨e1, e2⟩ := h1 e
  exact ⟨.rt d, en2, by rw [mRet_ap, e1]; rfl, e2⟩
theorem wp_no {t : Mir.Tm} {a : Sm} (h : t en = .ok (false, en1)) (k : Wp (c en1) Q) : Wp (mSeq (mIf t a mNext) c en) Q := wp_ifs h (fun e => by cases e) (fun _ => ⟨_, _, rfl, k⟩)
theorem wp_ret {m : Em} {d : D} (h : m en = .ok (d, en1)) (q : Q (.rt d) en1) : Wp (mRet m en) Q := ⟨.rt d, en1, by rw [mRet_ap, h]; rfl, q⟩
theorem wp_next (q : Q .nx en) : Wp (mNext en) Q := ⟨_, _, rfl, q⟩
theorem wp_asg {m : Em} {d : D} {i : Nat} (h : m en = .ok (d, en1)) (q : Q .nx (en1.set i (.dat d))) : Wp (mAsg (gmName i) m en) Q := ⟨.nx, _, by rw [mAsg_ap, h]; rfl, q⟩
theorem wp_asgs {m : Em} {d : D} {i : Nat} (h : m en = .ok (d, en1)) (q : Wp (b (en1.set i (.dat d))) Q) : Wp (mSeq (mAsg (gmName i) m) b en) Q := wp_seq (by rw [mAsg_ap, h]; rfl) q
theorem wp_lap {N : En → Prop} (h : b en = .ok (.nx, en1)) (q : N en1) : Wp (b en) (Lap N Q) := ⟨_, _, h, q⟩
theorem wp_forGo {W : Type} {gm : Gm} (I : Nat → W → Prop) (E : Nat → W → En) : ∀ (ds : List D) (k : Nat) (w : W), I k w →
    (∀ i d w, ds[i]? = some d → I (k + i) w → ∃ en1, gm d (E (k + i) w) = .ok en1 ∧ Wp (b en1) (Lap (fun en => ∃ w', en = E (k + i + 1) w' ∧ I (k + i + 1) w') Q)) →
    (∀ w, I (k + ds.length) w → Q .nx (E (k + ds.length) w)) → Wp (forGo gm b ds (E k w)) Q
  | [], k, w, h0, _, hf => ⟨.nx, _, rfl, hf w h0⟩
  | d :: ds, k, w, h0, hs, hf => by
    obtain ⟨en1, e1, fl, en2, e2, q⟩ := hs 0 d w rfl h0
    unfold forGo
    rw [show E k w = E (k + 0) w from rfl, e1, calm_ok, bind_ok, e2, bind_ok]
    have go : ∀ w', I (k + 1) w' → Wp (forGo gm b ds (E (k + 1) w')) Q := fun w' hi => wp_forGo I E ds (k + 1) w' hi (fun i d' w'' hd hi' => by
      have := hs (i + 1) d' w'' (by simpa using hd) (by rw [show k + (i + 1) = k + 1 + i by omega]; exact hi')
      rw [show k + (i + 1) = k + 1 + i by omega] at this
      exact this) (fun w'' hi' => by
      have e : k + 1 + ds.length = k + (ds.length + 1) := by omega
      rw [e] at hi' ⊢
      exact hf w'' hi')
    cases fl with
    | nx => obtain ⟨w', rfl, hi⟩ := q; exact go w' hi
    | ct => obtain ⟨w', rfl, hi⟩ := q; exact go w' hi
    | bk => exact ⟨_, _, rfl, q⟩
    | rt r => exact ⟨_, _, rfl, q⟩
theorem wp_rng {W : Type} {av : Am} {j n : Nat} (I : Nat → W → Prop) (E : Nat → W → En) (w0 : W) (h0 : I 0 w0) (ha : av en = .ok ([iD n], E 0 w0)) (hn : n ≤ 100000)
    (hs : ∀ i w, i < n → I i w → Wp (b ((E i w).set j (.dat (iD i)))) (Lap (fun en => ∃ w', en = E (i + 1) w' ∧ I (i + 1) w') Q)) (hf : ∀ w, I n w → Q .nx (E n w)) : Wp (mFor (imRng rng1 av) (gmName j) b en) Q := by
  rw [mFor_ap, imRng_ap, ha, bind_ok, rng1_nat hn, bind_ok, bind_ok]
  have e : ((List.range n).map fun i : Nat => PyData.int (i : Nat)).length = n := by rw [List.length_map, List.length_range]
  refine wp_forGo I E _ 0 w0 h0 (fun i d w hd hi => ?_) (fun w hi => by rw [e, Nat.zero_add] at hi ⊢; exact hf w hi)
  rw [List.getElem?_map] at hd
  by_cases q : i < n
  · rw [List.getElem?_range q] at hd
    cases hd
    rw [Nat.zero_add] at hi ⊢
    exact ⟨_, rfl, hs i w q hi⟩
  · rw [List.getElem?_eq_none (by rw [List.length_range]; omega)] at hd
    cases hd
theorem wp_items {W A : Type} {m : Em} {gm : Gm} {d0 : D} (enc : A → D) (xs : List A) (I : Nat → W → Prop) (E : Nat → W → En) (w0 : W) (h0 : I 0 w0) (ha : m en = .ok (d0, E 0 w0)) (hd : itemsOf d0 = .ok (xs.map enc))
    (hs : ∀ i w (h : i < xs.length), I i w → ∃ en1, gm (enc xs[i]) (E i w) = .ok en1 ∧ Wp (b en1) (Lap (fun en => ∃ w', en = E (i + 1) w' ∧ I (i + 1) w') Q)) (hf : ∀ w, I xs.length w → Q .nx (E xs.length w)) : Wp (mFor (imSeq m) gm b en) Q := by
  rw [mFor_ap, imSeq_ap, ha, bind_ok, hd, bind_ok, bind_ok]
  refine wp_forGo I E _ 0 w0 h0 (fun i d w e hi => ?_) (fun w hi => by rw [List.length_map, Nat.zero_add] at hi ⊢; exact hf w hi)
  rw [List.getElem?_map] at e
  by_cases q : i < xs.length
  · rw [List.getElem?_eq_getElem q] at e
    cases e
    rw [Nat.zero_add] at hi ⊢
    exact hs i w q hi
  · rw [List.getElem?_eq_none (by omega)] at e
    cases e
theorem fn_wp {m : Sm} {n k : Nat} {ds : List D} {d : D} (hl : ds.length = k) (h : Wp (m (enOf n ds)) (Is d)) : fnM n k m ds = .ok d := by
  obtain ⟨fl, en', e, q⟩ := h
  unfold fnM
  rw [if_pos hl, e]
  cases fl with
  | nx => have q : d = .none := q; subst q; rfl
  | rt r => have q : r = d := q; subst q; rfl
  | bk => exact False.elim q
  | ct => exact False.elim q
end
section
variable {en : En} {j : Nat} {m : Em}
/-- over what an iterator gives -/
theorem lc_map {A : Type} {im : Im} {enc : A → D} {xs : List A} {f : A → D} (ha : im en = .ok (xs.map enc, en)) (h : ∀ x ∈ xs, m (en.set j (.dat (enc x))) = .ok (f x, en.set j (.dat (enc x)))) (hn : xs.length ≤ 100000) (hj : j < en.length) (ho : noOwn en [j] = true) :
    lLc im [j] (gmName j) tmYes m en = .ok (xs.map f, en) := by
  unfold lLc
  have e : wipeE en [j] = en.set j .un := rfl
  have key : ∀ xs : List A, (∀ x ∈ xs, m (en.set j (.dat (enc x))) = .ok (f x, en.set j (.dat (enc x)))) → lcGo [j] (gmName j) tmYes m (xs.map enc) (en.set j .un) = .ok (xs.map f, en.set j .un) := by
    intro xs
    induction xs with
    | nil => intro _; rfl
    | cons x xs ih =>
      intro h
      have e0 : (en.set j .un).set j (.dat (enc x)) = en.set j (.dat (enc x)) := List.set_set ..
      have e1 : wipeE (en.set j (.dat (enc x))) [j] = en.set j .un := List.set_set ..
      rw [List.map_cons]
      unfold lcGo
      rw [gmName_ap, calm_ok, bind_ok, e0, tmYes_ap, calm_ok, bind_ok, if_pos rfl, h x (List.mem_cons_self ..), calm_ok, bind_ok, e1, ih fun y hy => h y (List.mem_cons_of_mem _ hy), bind_ok, List.map_cons]
  rw [ha, bind_ok, if_pos ⟨ho, by rw [List.length_map]; exact hn⟩, e, key xs h, calm_ok, bind_ok]
  have e2 : restE en (en.set j .un) [j] = (en.set j .un).set j (en.getD j .un) := rfl
  rw [e2, List.set_set, set_self hj]
end
section
variable {en : En} {i : Nat}
theorem ownL_ap : ownL en i = match en[i]? with
  | some (.own (.lst ds)) => some ds
  | _ => none := rfl
theorem mApp_ap {m : Em} : mApp i m en = match ownL en i with
  | none => .stk
  | some _ => (m en).bind fun p => match ownL p.2 i with
    | none => .stk
    | some ds => if ds.length < big then .ok (.nx, p.2.set i (.own (.lst (ds ++ [p.1])))) else .stk := rfl
theorem fAbs_I (i : Int) : fAbs [.int i] = .ok (iD i.natAbs) := by
  show Rs.ok (PyData.int (if i < 0 then -i else i)) = Rs.ok (PyData.int _)
  congr 2
  split <;> omega
theorem eSl_ap {a : Em} {lo hi : Om} : eSl a lo hi en = (a en).bind fun p => (lo p.2).bind fun q => (hi q.2).bind fun r => match p.1 with
  | .list ds => .ok (.list (cutD ds q.1 r.1), r.2)
  | .tuple ds => .ok (.tuple (cutD ds q.1 r.1), r.2)
  | _ => .stk := rfl
theorem oNone_ap : oNone en = .ok (none, en) := rfl
theorem oSome_ap {m : Em} : oSome m en = (m en).bind fun p => match p.1 with
  | .int i => .ok (some i, p.2)
  | _ => .stk := rfl
theorem ixI_N {n k : Nat} (h : k < n) : ixI n (iD k) = some k := by
  show ixN n (k : Int) = some k
  unfold ixN
  rw [if_pos (by omega), if_pos (by omega)]
  rfl
end
end Mir
end
section
set_option Elab.async false
set_option linter.all false
set_option maxRecDepth 100000
set_option maxHeartbeats 4000000
namespace Mir
open PySem PySem.Spec PyProof.Rows L2
structure Rp (n e : Nat) (d : D) : Prop where
  sh : d.showable = true
  lay : d.canLay0 = true
  dep : d.depth ≤ e
  len : d.shown.length ≤ n
  ok : PyData.strOk d.shown = true
theorem Rp.mono {n e n' e' : Nat} {d : D} (h : Rp n e d) (hn : n ≤ n') (he : e ≤ e') : Rp n' e' d := ⟨h.sh, h.lay, Nat.le_trans h.dep he, Nat.le_trans h.len hn, h.ok⟩
theorem rp_bool (b : Bool) : Rp 5 0 (.bool b) where
  sh := by simp [PyData.showable]
  lay := by simp [PyData.canLay0]
  dep := by simp [PyData.depth]
  len := by cases b <;> decide +kernel
  ok := strOk_bool b
theorem rp_none : Rp 4 0 .none where
  sh := by simp [PyData.showable]
  lay := by simp [PyData.canLay0]
  dep := by simp [PyData.depth]
  len := by decide +kernel
  ok := by decide +kernel
theorem rpAll {n e : Nat} : ∀ (ds : List D), (∀ d ∈ ds, Rp n e d) → PyData.showableAll ds = true ∧ PyData.canLayAll0 ds = true ∧ PyData.depthAll ds ≤ e
  | [], _ => by simp [PyData.showableAll, PyData.canLayAll0, PyData.depthAll]
  | d :: ds, h => by
    obtain ⟨h1, h2, h3⟩ := rpAll ds fun x hx => h x (List.mem_cons_of_mem _ hx)
    have r := h d (List.mem_cons_self ..)
    refine ⟨by rw [PyData.showableAll, r.sh, h1]; rfl, by rw [PyData.canLayAll0, r.lay, h2]; rfl, ?_⟩
    rw [PyData.depthAll]
    have := r.dep
    omega
theorem rp_texts {n e : Nat} {ds : List D} (h : ∀ d ∈ ds, Rp n e d) : (∀ t ∈ ds.map PyData.shown, t.length ≤ n) ∧ ∀ t ∈ ds.map PyData.shown, PyData.strOk t = true := by
  refine ⟨fun t ht => ?_, fun t ht => ?_⟩
  · obtain ⟨d, hd, rfl⟩ := List.mem_map.mp ht
    exact (h d hd).len
  · obtain ⟨d, hd, rfl⟩ := List.mem_map.mp ht
    exact (h d hd).ok
theorem rp_tuple {n e : Nat} {ds : List D} (h : ∀ d ∈ ds, Rp n e d) : Rp (ds.length * (n + 2) + 3) (e + 1) (.tuple ds) := by
  obtain ⟨h1, h2, h3⟩ := rpAll ds h
  obtain ⟨t1, t2⟩ := rp_texts h
  have es : (PyData.tuple ds).shown = tupleText (ds.map PyData.shown) := by simp only [PyData.shown]; rw [shownAll_eq]
  refine ⟨by rw [PyData.showable]; exact h1, by rw [PyData.canLay0]; exact h2, by rw [PyData.depth]; omega, ?_, ?_⟩
  · rw [es]
    have := tupleText_len (ds.map PyData.shown)
    have := piled_le (ds.map PyData.shown) n t1
    rw [List.length_map] at this
    omega
  · rw [es]; exact strOk_tuple _ t2
theorem strOk_from : ∀ (ts : List Str) (k : Nat) (acc : Str), PyData.strOk acc = true → (∀ t ∈ ts, PyData.strOk t = true) → PyData.strOk (textFrom k acc ts) = true
  | [], _, _, h, _ => h
  | t :: ts, k, acc, h, ht => strOk_from ts (k + 1) _ (strOk_app _ _ (strOk_app _ _ h (strOk_of _)) (ht t (List.mem_cons_self ..))) fun x hx => ht x (List.mem_cons_of_mem _ hx)
theorem listText_len (ts : List Str) : (listText ts).length ≤ piled ts + 3 := by
  unfold listText
  rw [strLen_append]
  have e1 : ((("[" : String) : Str)).length = 1 := rfl
  have e2 : ((("]" : String) : Str)).length = 1 := rfl
  rw [e2]
  cases ts with
  | nil => show (("[" : Str)).length + 1 ≤ _; rw [e1]; omega
  | cons t r =>
    show (textFrom 1 (("[" : Str) ++ (("" : String) : Str) ++ t) r).length + 1 ≤ _
    rw [textFrom_length_pos r 1 _ (by decide), strLen_append, strLen_append, piled_cons, e1]
    have : ((("" : String) : Str)).length = 0 := rfl
    omega
theorem rp_list {n e : Nat} {ds : List D} (h : ∀ d ∈ ds, Rp n e d) : Rp (ds.length * (n + 2) + 3) (e + 1) (.list ds) := by
  obtain ⟨h1, h2, h3⟩ := rpAll ds h
  obtain ⟨t1, t2⟩ := rp_texts h
  have es : (PyData.list ds).shown = listText (ds.map PyData.shown) := by simp only [PyData.shown]; rw [shownAll_eq]
  refine ⟨by rw [PyData.showable]; exact h1, by rw [PyData.canLay0]; exact h2, by rw [PyData.depth]; omega, ?_, ?_⟩
  · rw [es]
    have := listText_len (ds.map PyData.shown)
    have := piled_le (ds.map PyData.shown) n t1
    rw [List.length_map] at this
    omega
  · rw [es]; exact strOk_app _ _ (strOk_from _ _ _ (strOk_of _) t2) (strOk_of _)
theorem rp_repr {n e : Nat} {d : D} (h : Rp n e d) (hn : n ≤ 1000000) (he : e ≤ 60) : fRepr [d] = .ok (.str d.shown) := fRepr_ok h.sh h.lay (Nat.le_trans h.dep he) (Nat.le_trans h.len hn)
theorem str_same {x : Str} (h : PyData.strOk x = true) : fNe (.str x) (.str x) = .ok (.bool false) := by rw [fNe_str h h, decide_eq_true rfl]; rfl
end Mir
end
section
set_option Elab.async false
set_option linter.all false
set_option maxRecDepth 100000
set_option maxHeartbeats 4000000
namespace Mir
open PySem PySem.Spec PyProof.Rows L2
variable {en en1 : En} {i : Nat}
theorem pinAt_ap : pinAt en i = match en[i]? with
  | some (.own (.src c t)) => some (.src c t)
  | some (.own (.dl ds)) => some (.dl ds)
  | _ => none := rfl
theorem eCallD_ap {m : MO → List D → Rs (D × MO)} {a : Am} : eCallD m i a en = match pinAt en i with
  | none => .stk
  | some _ => (a en).bind fun p => match pinAt p.2 i with
    | none => .stk
    | some mo => (m mo p.1).calm.bind fun q => .ok (q.1, p.2.set i (.own q.2)) := rfl
theorem mAsgD_ap {m : Am} : mAsgD i m en = if i = 0 then .stk else (m en).bind fun p => .ok (.nx, p.2.set i (.own (.dl p.1))) := rfl
theorem lCall_ap {m : List D → Rs (List D)} {a : Am} : lCall m a en = (a en).bind fun p => (m p.1).calm.bind fun zs => .ok (zs, p.2) := rfl
theorem fnD_ex {m : Sm} {n k : Nat} {mo : MO} {ds : List D} {P : D → MO → Prop} (hl : ds.length + 1 = k) (h : Wp (m (enOfS n mo ds)) (fun fl en => ∃ d mo', fl = .rt d ∧ pinAt en 0 = some mo' ∧ P d mo')) : ∃ d mo', fnD n k m mo ds = .ok (d, mo') ∧ P d mo' := by
  obtain ⟨fl, en', e, d, mo', rfl, hs, q⟩ := h
  refine ⟨d, mo', ?_, q⟩
  unfold fnD
  rw [if_pos hl, e]
  show (match pinAt en' 0 with
    | some mo' => Rs.ok (d, mo')
    | none => Rs.stk) = _
  rw [hs]
variable {en2 : En} {x y : Bool}
theorem eAnd_b {a b : Em} (ha : a en = .ok (.bool x, en1)) (hb : x = true → b en1 = .ok (.bool y, en1)) : eAnd a b en = .ok (.bool (x && y), en1) := by
  rw [eAnd_ap, ha, bind_ok]
  cases x with
  | true => exact hb rfl
  | false => rfl
theorem tmOr_b {a b : Mir.Tm} (ha : a en = .ok (x, en1)) (hb : x = false → b en1 = .ok (y, en1)) : tmOr a b en = .ok (x || y, en1) := by
  rw [tmOr_ap, ha, bind_ok]
  cases x with
  | true => rfl
  | false => exact hb rfl
theorem tmAnd_b {a b : Mir.Tm} (ha : a en = .ok (x, en1)) (hb : x = true → b en1 = .ok (y, en1)) : tmAnd a b en = .ok (x && y, en1) := by
  rw [tmAnd_ap, ha, bind_ok]
  cases x with
  | true => exact hb rfl
  | false => rfl
theorem tmNot_b {a : Mir.Tm} (ha : a en = .ok (x, en1)) : tmNot a en = .ok (!x, en1) := by rw [tmNot_ap, ha, bind_ok]
theorem tmTru_b {a : Em} (ha : a en = .ok (.bool x, en1)) : tmTru a en = .ok (x, en1) := by rw [tmTru_ap, ha, bind_ok]; rfl
theorem fAll_map {A : Type} (l : List A) (p : A → Bool) : fAll [.list (l.map fun a => PyData.bool (p a))] = .ok (.bool (l.all p)) := by
  have e : l.map (fun a => PyData.bool (p a)) = (l.map p).map PyData.bool := by rw [List.map_map]; rfl
  rw [e]
  show (match Mir.boolsOf ((l.map p).map PyData.bool) with
    | some bs => Rs.ok (PyData.bool (bs.all id))
    | none => .stk) = _
  rw [Mir.boolsOf_map]
  show Rs.ok (PyData.bool ((l.map p).all id)) = _
  rw [List.all_map]; rfl
theorem fAny_map {A : Type} (l : List A) (p : A → Bool) : fAny [.list (l.map fun a => PyData.bool (p a))] = .ok (.bool (l.any p)) := by
  have e : l.map (fun a => PyData.bool (p a)) = (l.map p).map PyData.bool := by rw [List.map_map]; rfl
  rw [e]
  show (match Mir.boolsOf ((l.map p).map PyData.bool) with
    | some bs => Rs.ok (PyData.bool (bs.any id))
    | none => .stk) = _
  rw [Mir.boolsOf_map]
  show Rs.ok (PyData.bool ((l.map p).any id)) = _
  rw [List.any_map]; rfl
/-- all([.. for x in ..]) -/
theorem all_ok {A : Type} {j : Nat} {im : Im} {m : Em} {enc : A → D} {xs : List A} {p : A → Bool} (ha : im en = .ok (xs.map enc, en)) (h : ∀ x ∈ xs, m (en.set j (.dat (enc x))) = .ok (.bool (p x), en.set j (.dat (enc x)))) (hn : xs.length ≤ 100000) (hj : j < en.length) (ho : noOwn en [j] = true) :
    eN fAll (aCons (eL (lLc im [j] (gmName j) tmYes m)) aNil) en = .ok (.bool (xs.all p), en) := by
  rw [eN_ap, aCons_ap, eL_ap, lc_map (f := fun x => PyData.bool (p x)) ha h hn hj ho, bind_ok, bind_ok, aNil_ap, bind_ok, bind_ok]
  dsimp only
  rw [fAll_map, calm_ok, bind_ok]
theorem any_ok {A : Type} {j : Nat} {im : Im} {m : Em} {enc : A → D} {xs : List A} {p : A → Bool} (ha : im en = .ok (xs.map enc, en)) (h : ∀ x ∈ xs, m (en.set j (.dat (enc x))) = .ok (.bool (p x), en.set j (.dat (enc x)))) (hn : xs.length ≤ 100000) (hj : j < en.length) (ho : noOwn en [j] = true) :
    eN fAny (aCons (eL (lLc im [j] (gmName j) tmYes m)) aNil) en = .ok (.bool (xs.any p), en) := by
  rw [eN_ap, aCons_ap, eL_ap, lc_map (f := fun x => PyData.bool (p x)) ha h hn hj ho, bind_ok, bind_ok, aNil_ap, bind_ok, bind_ok]
  dsimp only
  rw [fAny_map, calm_ok, bind_ok]
theorem call_b {m : List D → Rs D} {a : Am} {ds : List D} {d : D} (ha : a en = .ok (ds, en1)) (hm : m ds = .ok d) : eCall m a en = .ok (d, en1) := by
  rw [eCall_ap, ha, bind_ok]
  dsimp only
  rw [hm, bind_ok]
/-- a def that hands back an expression -/
theorem fn_ret {e : Em} {n k : Nat} {ds : List D} {d : D} {en' : En} (hl : ds.length = k) (h : e (enOf n ds) = .ok (d, en')) : fnM n k (mRet e) ds = .ok d := fn_wp hl (wp_ret h rfl)
end Mir
end
section
set_option Elab.async false
set_option linter.all false
set_option maxRecDepth 100000
set_option maxHeartbeats 4000000
namespace Mir
open PySem PySem.Spec PyProof.Rows L2
theorem cut_take (ds : List D) (k : Nat) : Mir.cutD ds none (some (k : Int)) = ds.take k := by
  unfold Mir.cutD
  rw [HT.sIx_none, HT.sIx_nat, List.drop_zero, Nat.sub_zero]
  rw [List.take_eq_take_iff]
  omega
theorem cut_drop (ds : List D) (k : Nat) : Mir.cutD ds (some (k : Int)) none = ds.drop k := by
  unfold Mir.cutD
  rw [HT.sIx_none, HT.sIx_nat]
  by_cases h : k ≤ ds.length
  · rw [Nat.min_eq_left h, List.take_of_length_le (by rw [List.length_drop]; omega)]
  · rw [Nat.min_eq_right (by omega), List.drop_of_length_le (show ds.length ≤ ds.length by omega), List.drop_of_length_le (show ds.length ≤ k by omega), List.take_nil]
theorem cut_last (ds : List D) (d : D) : Mir.cutD (ds ++ [d]) (some (-1)) none = [d] := by
  unfold Mir.cutD
  have e : HT.sIx (ds ++ [d]).length 0 (some (-1)) = ds.length := by
    show (if (-1 : Int) < 0 then ((-1 : Int) + ((ds ++ [d]).length : Int)).toNat else min (-1 : Int).toNat (ds ++ [d]).length) = _
    rw [if_pos (by decide), List.length_append, List.length_singleton]
    omega
  rw [HT.sIx_none, e, List.drop_left, List.length_append, List.length_singleton, Nat.add_sub_cancel_left]
  rfl
theorem atI_D (ds : List D) (k : Nat) (h : k < ds.length) : atI ds (k : Int) = some (ds.getD k .none) := by
  have h' : ixN ds.length (k : Int) = some k := ixI_N h
  unfold atI
  rw [h', List.getD_eq_getElem?_getD, List.getElem?_eq_getElem h]
  exact List.getElem?_eq_getElem h
theorem fAdd_T (a b : List D) (h : a.length + b.length ≤ 100000) : fAdd (.tuple a) (.tuple b) = .ok (.tuple (a ++ b)) := by
  show (if a.length + b.length ≤ big then _ else _) = _
  exact if_pos h
end Mir
end
section
set_option Elab.async false
set_option linter.all false
set_option maxRecDepth 100000
set_option maxHeartbeats 4000000
namespace Mir
open PySem PySem.Spec PyProof.Rows L2
end Mir
end
section
set_option Elab.async false
set_option linter.all false
set_option maxRecDepth 100000
set_option maxHeartbeats 4000000
namespace Mir
open PySem PySem.Spec PyProof.Rows L2
end Mir
end
section
set_option Elab.async false
set_option linter.all false
set_option maxRecDepth 100000
set_option maxHeartbeats 4000000
namespace Mir
open PySem PySem.Spec PyProof.Rows L2
end Mir
end
section
set_option Elab.async false
set_option linter.all false
set_option maxRecDepth 100000
set_option maxHeartbeats 4000000
namespace Mir
open PySem PySem.Spec PyProof.Rows L2
end Mir
namespace Mir
open PySem PySem.Spec PyProof.Rows L2
end Mir
namespace Mir
open PySem PySem.Spec PyProof.Rows L2
end Mir
end
section
set_option Elab.async false
set_option linter.all false
set_option maxRecDepth 100000
set_option maxHeartbeats 4000000
namespace Mir
open PySem PySem.Spec PyProof.Rows L2
section
variable {en : En}
theorem tcons {m : Em} {a : Am} {d : D} {ds : List D} (h1 : m en = .ok (d, en)) (h2 : a en = .ok (ds, en)) : aCons m a en = .ok (d :: ds, en) := by rw [aCons_ap, h1, bind_ok, h2, bind_ok]
theorem tnil : aNil en = .ok ([], en) := rfl
theorem tone {m : Em} {d : D} (h1 : m en = .ok (d, en)) : aCons m aNil en = .ok ([d], en) := tcons h1 tnil
theorem tp_of {a : Am} {ds : List D} (h : a en = .ok (ds, en)) (hl : ds.length ≤ 100000 := by exact Nat.le_of_ble_eq_true rfl) : eTup a en = .ok (.tuple ds, en) := by
  rw [eTup_ap, h, bind_ok]
  exact if_pos hl
theorem ls_of {a : Am} {ds : List D} (h : a en = .ok (ds, en)) (hl : ds.length ≤ 100000 := by exact Nat.le_of_ble_eq_true rfl) : eL (lLst a) en = .ok (.list ds, en) := by
  have : lLst a en = .ok (ds, en) := by
    rw [lLst_ap, h, bind_ok]
    exact if_pos hl
  rw [eL_ap, this, bind_ok]
theorem el_of {l : Am} {ds : List D} (h : l en = .ok (ds, en)) : eL l en = .ok (.list ds, en) := by rw [eL_ap, h, bind_ok]
theorem e2_of {f : D → D → Rs D} {a b : Em} {d e z : D} (h1 : a en = .ok (d, en)) (h2 : b en = .ok (e, en)) (h : f d e = .ok z) : e2 f a b en = .ok (z, en) := by
  rw [e2_ap, h1, bind_ok, h2, bind_ok]
  dsimp only
  rw [h, calm_ok, bind_ok]
theorem eN_of {f : List D → Rs D} {a : Am} {ds : List D} {z : D} (h : a en = .ok (ds, en)) (hf : f ds = .ok z) : eN f a en = .ok (z, en) := by
  rw [eN_ap, h, bind_ok]
  dsimp only
  rw [hf, calm_ok, bind_ok]
theorem en1_of {f : List D → Rs D} {m : Em} {d z : D} (h : m en = .ok (d, en)) (hf : f [d] = .ok z) : eN f (aCons m aNil) en = .ok (z, en) := eN_of (tone h) hf
theorem lN_of {f : List D → Rs (List D)} {a : Am} {ds zs : List D} (h : a en = .ok (ds, en)) (hf : f ds = .ok zs) : eL (lN f a) en = .ok (.list zs, en) := by
  rw [eL_ap, lN_ap, h, bind_ok]
  dsimp only
  rw [hf, calm_ok, bind_ok, bind_ok]
theorem b_of {a : Em} {b : Bool} (h : a en = .ok (.bool b, en)) : tmB a en = .ok (b, en) := by rw [tmB_ap, h, bind_ok]
theorem tr_of {a : Em} {b : Bool} (h : a en = .ok (.bool b, en)) : tmTru a en = .ok (b, en) := tmTru_b h
end
end Mir
end
section
set_option Elab.async false
set_option linter.all false
set_option maxRecDepth 100000
set_option maxHeartbeats 4000000
namespace Mir
open PySem PySem.Spec PyProof.Rows L2
theorem lc_run {W A B : Type} {j : Nat} {im : Im} {m : Em} {enc : A → D} {dec : B → D} {xs : List A} {en : En} (E : W → En) (I : Nat → W → Prop) (R : B → Prop) (w0 : W) (h0 : I 0 w0) (ha : im en = .ok (xs.map enc, E w0)) (hu : ∀ w, (E w).set j .un = E w)
    (hs : ∀ i w (h : i < xs.length), I i w → ∃ b w', m ((E w).set j (.dat (enc xs[i]))) = .ok (dec b, (E w').set j (.dat (enc xs[i]))) ∧ R b ∧ I (i + 1) w') (hn : xs.length ≤ 100000) (ho : noOwn (E w0) [j] = true) (hg : (E w0).getD j .un = .un) :
    ∃ (bs : List B) (w' : W), lLc im [j] (gmName j) tmYes m en = .ok (bs.map dec, E w') ∧ bs.length = xs.length ∧ (∀ b ∈ bs, R b) ∧ I xs.length w' := by
  have key : ∀ (ys : List A) (k : Nat) (w : W), I k w → (∀ i w (h : i < ys.length), I (k + i) w → ∃ b w', m ((E w).set j (.dat (enc ys[i]))) = .ok (dec b, (E w').set j (.dat (enc ys[i]))) ∧ R b ∧ I (k + i + 1) w') →
      ∃ (bs : List B) (w' : W), lcGo [j] (gmName j) tmYes m (ys.map enc) (E w) = .ok (bs.map dec, E w') ∧ bs.length = ys.length ∧ (∀ b ∈ bs, R b) ∧ I (k + ys.length) w' := by
    intro ys
    induction ys with
    | nil => exact fun k w hi _ => ⟨[], w, rfl, rfl, fun b hb => (by cases hb), hi⟩
    | cons y ys ih =>
      intro k w hi hs
      obtain ⟨b, w1, e1, rb, i1⟩ := hs 0 w (by rw [List.length_cons]; omega) hi
      obtain ⟨bs, w2, e2, l2, r2, i2⟩ := ih (k + 1) w1 i1 fun i w h hi => by
        have := hs (i + 1) w (by rw [List.length_cons]; omega) (by rw [show k + (i + 1) = k + 1 + i by omega]; exact hi)
        rw [show k + (i + 1) + 1 = k + 1 + i + 1 by omega] at this
        exact this
      refine ⟨b :: bs, w2, ?_, by rw [List.length_cons, List.length_cons, l2], fun x hx => ?_, by rw [List.length_cons, show k + (ys.length + 1) = k + 1 + ys.length by omega]; exact i2⟩
      · have ew : wipeE ((E w1).set j (.dat (enc y))) [j] = E w1 := by
          show ((E w1).set j (.dat (enc y))).set j .un = E w1
          rw [List.set_set]; exact hu w1
        rw [List.map_cons]
        unfold lcGo
        rw [gmName_ap, calm_ok, bind_ok, tmYes_ap, calm_ok, bind_ok, if_pos rfl]
        have e1' : m ((E w).set j (.dat (enc y))) = .ok (dec b, (E w1).set j (.dat (enc y))) := e1
        rw [e1', calm_ok, bind_ok, ew, e2]
        rfl
      · rcases List.mem_cons.mp hx with rfl | hx
        · exact rb
        · exact r2 x hx
  obtain ⟨bs, w', e, l, r, i⟩ := key xs 0 w0 h0 fun i w h hi => by
    rw [Nat.zero_add] at hi ⊢
    exact hs i w h hi
  refine ⟨bs, w', ?_, l, r, by rw [Nat.zero_add] at i; exact i⟩
  unfold lLc
  have ew : wipeE (E w0) [j] = E w0 := hu w0
  rw [ha, bind_ok, if_pos ⟨ho, by rw [List.length_map]; exact hn⟩, ew, e, calm_ok, bind_ok]
  show Rs.ok (bs.map dec, (E w').set j ((E w0).getD j .un)) = _
  rw [hg, hu]
end Mir
end
section
set_option Elab.async false
set_option linter.all false
set_option maxRecDepth 100000
set_option maxHeartbeats 4000000
namespace Mir
open PySem PySem.Spec PyProof.Rows L2
def SrcG (c : List Int) (t : Int) (k : Nat) : Prop := (∀ z ∈ c, z.natAbs.log2 < 3000000) ∧ 0 ≤ t ∧ t ≤ (k : Int) ∧ c.length ≤ 1000
theorem SrcG.mono {c : List Int} {t : Int} {k l : Nat} (g : SrcG c t k) (h : k ≤ l) : SrcG c t l := ⟨g.1, g.2.1, by have := g.2.2.1; omega, g.2.2.2⟩
end Mir
end
section
set_option Elab.async false
set_option linter.all false
set_option maxRecDepth 100000
set_option maxHeartbeats 4000000
namespace Mir
open PySem PySem.Spec PyProof.Rows L2
end Mir
end
section
set_option Elab.async false
set_option linter.all false
set_option maxRecDepth 100000
set_option maxHeartbeats 4000000
namespace Mir
open PySem PySem.Spec PyProof.Rows L2
/-- a slot that holds plain data or nothing -/
def Pl (v : SV) : Prop := v = .un ∨ ∃ d, v = .dat d
theorem Pl.un : Pl .un := .inl rfl
theorem Pl.dat {d : D} : Pl (.dat d) := .inr ⟨d, rfl⟩
end Mir
end
section
set_option Elab.async false
set_option linter.all false
set_option maxRecDepth 100000
set_option maxHeartbeats 4000000
namespace Mir
open PySem PySem.Spec PyProof.Rows L2
section
variable {en en1 en2 : En} {i j k : Nat}
theorem app_at {m : Em} {ds0 ds : List D} {d : D} (h0 : en[i]? = some (.own (.lst ds0))) (hm : m en = .ok (d, en1)) (h1 : en1[i]? = some (.own (.lst ds))) (hl : ds.length < 99999) : mApp i m en = .ok (.nx, en1.set i (.own (.lst (ds ++ [d])))) := by
  rw [mApp_ap, ownL_ap, h0]
  dsimp only
  rw [hm, bind_ok]
  dsimp only
  rw [ownL_ap, h1]
  exact if_pos (Nat.lt_trans hl (by decide))
theorem asg_at {m : Em} {d : D} (h : m en = .ok (d, en1)) : mAsg (gmName i) m en = .ok (.nx, en1.set i (.dat d)) := by rw [mAsg_ap, h]; rfl
theorem asgO_at {m : Am} {ds : List D} (h : m en = .ok (ds, en1)) : mAsgO i m en = .ok (.nx, en1.set i (.own (.lst ds))) := by rw [mAsgO_ap, h]; rfl
theorem e2_at {f : D → D → Rs D} {a b : Em} {d e z : D} (h1 : a en = .ok (d, en1)) (h2 : b en1 = .ok (e, en2)) (h : f d e = .ok z) : e2 f a b en = .ok (z, en2) := by
  rw [e2_ap, h1, bind_ok, h2, bind_ok]
  dsimp only
  rw [h, calm_ok, bind_ok]
theorem eN_at {f : List D → Rs D} {a : Am} {ds : List D} {z : D} (h : a en = .ok (ds, en1)) (hf : f ds = .ok z) : eN f a en = .ok (z, en1) := by
  rw [eN_ap, h, bind_ok]
  dsimp only
  rw [hf, calm_ok, bind_ok]
theorem lst_of {a : Am} {ds : List D} (h : a en = .ok (ds, en)) (hl : ds.length ≤ 100000) : lLst a en = .ok (ds, en) := by
  rw [lLst_ap, h, bind_ok]
  exact if_pos hl
theorem or_no {a b : Mir.Tm} {y : Bool} (h : a en = .ok (false, en)) (hb : b en = .ok (y, en)) : tmOr a b en = .ok (y, en) := tmOr_b (x := false) (y := y) h fun _ => hb
theorem imR_at {av : Am} {q : Nat} (ha : av en = .ok ([iD q], en)) (hq : q ≤ 100000) : imRng rng1 av en = .ok ((List.range q).map iD, en) := by
  rw [imRng_ap, ha, bind_ok]
  have := rng1_nat hq
  dsimp only
  rw [show rng1 [iD q] = rng1 [.int (q : Int)] from rfl, this, bind_ok]
theorem imS_at {m : Em} {d : D} {ds : List D} (h : m en = .ok (d, en1)) (hi : itemsOf d = .ok ds) : imSeq m en = .ok (ds, en1) := by
  rw [imSeq_ap, h, bind_ok, hi]
  rfl
end
end Mir
end
section
set_option Elab.async false
set_option linter.all false
set_option maxRecDepth 100000
set_option maxHeartbeats 4000000
namespace K42
open PySem PySem.Spec PyProof.Rows L2 Mir
section
variable {d e : D} {ds es : List D} {w : Str} {en en1 : En} {i j k n : Nat}
def numB : D → Bool
  | .int i => decide (0 ≤ i)
  | _ => false
def numsB : D → Bool
  | .tuple ds => ds.all numB
  | _ => false
theorem num_ok (d : D) : M_number_fits [d] = .ok (.bool (numB d)) := by
  cases d with
  | int i =>
    exact fn_ret rfl (en' := [.dat (.int i)]) (eAnd_b (x := true) (y := decide (0 ≤ i)) (call_b (ds := [.int i]) (tone rfl) rfl) fun _ => e2_of (d := .int i) (e := .int 0) rfl rfl (fGe_int i 0))
  | bool b => cases b <;> rfl
  | _ => rfl
theorem isnum_ok (d : D) : M_is_number [d] = .ok (.bool (numB d)) := fn_ret rfl (en' := [.dat d]) (call_b (ds := [d]) (tone rfl) (num_ok d))
theorem lnum_ok (d : D) : M__law_number [d] = .ok (.bool (numB d)) := by
  cases d with
  | int i =>
    exact fn_ret rfl (en' := [.dat (.int i)]) (eAnd_b (x := true) (y := decide (0 ≤ i)) rfl fun _ => eAnd_b (x := true) (y := decide (0 ≤ i)) rfl fun _ => e2_of (d := .int i) (e := .int 0) rfl rfl (fGe_int i 0))
  | bool b => cases b <;> rfl
  | _ => rfl
def bitB : D → Bool
  | .int i => decide (0 ≤ i) && decide (i ≤ 1)
  | _ => false
theorem bit_ok (d : D) : M_is_bit [d] = .ok (.bool (bitB d)) := by
  cases d with
  | int i =>
    exact fn_ret rfl (en' := [.dat (.int i)]) (eAnd_b (x := decide (0 ≤ i)) (y := decide (i ≤ 1)) (call_b (ds := [.int i]) (tone rfl) (num_ok _)) fun _ => e2_of (d := .int i) (e := .int 1) rfl rfl (fLe_int i 1))
  | bool b => cases b <;> rfl
  | _ => rfl
theorem nums_ok (h : ∀ ds, d = .tuple ds → ds.length ≤ 1000) : M__are_numbers [d] = .ok (.bool (numsB d)) := by
  cases d with
  | tuple ds =>
    refine fn_ret rfl (en' := [.dat (.tuple ds), .un]) (eAnd_b (x := true) (y := ds.all numB) rfl fun _ => ?_)
    exact all_ok (j := 1) (enc := fun x : D => x) (xs := ds) (p := numB) (imS_at (d := .tuple ds) rfl (by rw [List.map_id']; rfl)) (fun x _ => call_b (ds := [x]) (tone rfl) (isnum_ok x)) (by have := h ds rfl; omega) (Nat.le_of_ble_eq_true rfl) rfl
  | _ => rfl
/-- a loop that leaves with no at the first that fails -/
theorem for_allB {p : D → Bool} {gm : Gm} {b : Sm} {im : Im} {E : SV → En} {xs : List D} {v0 : SV} (ha : im en = .ok (xs, E v0)) (hg : ∀ x v, gm x (E v) = .ok (E (.dat x)))
    (hb : ∀ x ∈ xs, Wp (b (E (.dat x))) (fun fl en => (p x = true → fl = .nx ∧ en = E (.dat x)) ∧ (p x = false → fl = .rt (.bool false)))) :
    Wp (mSeq (mFor im gm b) (mRet (eC (.bool true))) en) (Is (.bool (xs.all p))) := by
  have key : ∀ (ys : List D), (∀ y ∈ ys, y ∈ xs) → ∀ (v : SV), Wp (forGo gm b ys (E v)) (fun fl en => (ys.all p = true → fl = .nx ∧ ∃ v, en = E v) ∧ (ys.all p = false → fl = .rt (.bool false))) := by
    intro ys
    induction ys with
    | nil => exact fun _ v => ⟨.nx, E v, rfl, fun _ => ⟨rfl, v, rfl⟩, fun h => (by cases h)⟩
    | cons x ys ih =>
      intro hys v
      obtain ⟨fl, en1, e1', h1, h2⟩ := hb x (hys x (List.mem_cons_self ..))
      cases q : p x with
      | true =>
        obtain ⟨rfl, rfl⟩ := h1 q
        obtain ⟨fl2, en2, e2', h3, h4⟩ := ih (fun y hy => hys y (List.mem_cons_of_mem _ hy)) (.dat x)
        refine ⟨fl2, en2, ?_, ?_⟩
        · unfold forGo
          rw [hg x v, calm_ok, bind_ok, e1']
          exact e2'
        · rw [List.all_cons, q, Bool.true_and]
          exact ⟨h3, h4⟩
      | false =>
        obtain rfl := h2 q
        refine ⟨.rt (.bool false), en1, ?_, ?_⟩
        · unfold forGo
          rw [hg x v, calm_ok, bind_ok, e1']
          rfl
        · rw [List.all_cons, q, Bool.false_and]
          exact ⟨fun h => (by cases h), fun _ => rfl⟩
  obtain ⟨fl, en1, e1', h1, h2⟩ := key xs (fun _ h => h) v0
  refine wp_bind ⟨fl, en1, by rw [mFor_ap, ha, bind_ok]; exact e1', ?_⟩
  cases q : xs.all p with
  | true =>
    obtain ⟨rfl, v, rfl⟩ := h1 q
    exact wp_ret (d := .bool true) (en1 := E v) rfl rfl
  | false =>
    obtain rfl := h2 q
    exact rfl
theorem lnums_ok (d : D) : M__law_numbers [d] = .ok (.bool (numsB d)) := by
  cases d with
  | tuple ds =>
    refine fn_wp rfl ?_
    show Wp (m__law_numbers [.dat (.tuple ds), .un]) _
    refine wp_no (en1 := [.dat (.tuple ds), .un]) rfl ?_
    refine for_allB (p := numB) (E := fun v => [.dat (.tuple ds), v]) (xs := ds) (v0 := .un) rfl (fun _ _ => rfl) fun x _ => ?_
    refine wp_if (x := !numB x) (en1 := [.dat (.tuple ds), .dat x]) (tmNot_b (tr_of (call_b (ds := [x]) (tone rfl) (lnum_ok x)))) (fun q => ?_) (fun q => ?_)
    · refine wp_ret (d := .bool false) (en1 := [.dat (.tuple ds), .dat x]) rfl ⟨fun h => ?_, fun _ => rfl⟩
      rw [h] at q; cases q
    · refine wp_next ⟨fun _ => ⟨rfl, rfl⟩, fun h => ?_⟩
      rw [h] at q; cases q
  | _ => rfl
end
end K42
end
section
set_option Elab.async false
set_option linter.all false
set_option maxRecDepth 100000
set_option maxHeartbeats 4000000
namespace K42
open PySem PySem.Spec PyProof.Rows L2 Mir
section
variable {d e : D} {ds es : List D} {w : Str} {en en1 : En} {i j k n : Nat}
theorem ixT (h : k < ds.length) : fIx (.tuple ds) (iD k) = .ok (ds.getD k .none) := by
  show (match atI ds (k : Int) with
    | some z => Rs.ok z
    | none => .stk) = _
  rw [atI_D ds k h]
theorem lenT (ds : List D) : fLen [.tuple ds] = .ok (iD ds.length) := rfl
def iv : D → Int
  | .int i => i
  | _ => 0
def lessB (ds : List D) (k : Nat) : Bool := decide (iv (ds.getD k .none) < iv (ds.getD (k + 1) .none))
def riseB (ds : List D) : Bool := (List.range (ds.length - 1)).all (lessB ds)
def lotB : D → Bool
  | .tuple ds => ds.all numB && riseB ds
  | _ => false
theorem num_int (h : numB d = true) : d = .int (iv d) := by
  cases d with
  | int i => rfl
  | _ => cases h
theorem all_num (h : ds.all numB = true) (hk : k < ds.length) : ds.getD k .none = .int (iv (ds.getD k .none)) := by
  rw [List.getD_eq_getElem?_getD, List.getElem?_eq_getElem hk]
  exact num_int (List.all_eq_true.mp h _ (List.getElem_mem hk))
theorem rng_1 {m : Em} (hm : m en = .ok (.tuple ds, en)) (hl : ds.length ≤ 1000) : imRng rng1 (aCons (e2 fSub (eN fLen (aCons m aNil)) (eC (.int 1))) aNil) en = .ok ((List.range (ds.length - 1)).map iD, en) := by
  cases ds with
  | nil =>
    have e1 : e2 fSub (eN fLen (aCons m aNil)) (eC (.int 1)) en = .ok (.int (-1), en) := e2_of (d := .int 0) (e := .int 1) (en1_of hm rfl) rfl rfl
    rw [imRng_ap, tone e1, bind_ok]
    rfl
  | cons x xs => exact imR_at (tone (e2_of (d := iD (x :: xs).length) (e := iD 1) (en1_of hm (lenT _)) rfl (fSub_N (by rw [List.length_cons]; omega)))) (by omega)
theorem lotform_ok (h : ∀ ds, d = .tuple ds → ds.length ≤ 1000) : M__is_lot_form [d] = .ok (.bool (lotB d)) := by
  cases d with
  | tuple ds =>
    have hl := h ds rfl
    let E : En := [.dat (.tuple ds), .un]
    refine fn_ret rfl (en' := E) (eAnd_b (x := ds.all numB) (y := riseB ds) (call_b (ds := [.tuple ds]) (tone rfl) (nums_ok h)) fun hx => ?_)
    refine all_ok (j := 1) (enc := iD) (xs := List.range (ds.length - 1)) (p := lessB ds) (rng_1 rfl hl) (fun k hk => ?_) (by rw [List.length_range]; omega) (Nat.le_of_ble_eq_true rfl) rfl
    have hk := List.mem_range.mp hk
    have a1 : fIx (.tuple ds) (iD k) = .ok (.int (iv (ds.getD k .none))) := by rw [ixT (by omega)]; exact congrArg Rs.ok (all_num hx (by omega))
    have a2 : fIx (.tuple ds) (iD (k + 1)) = .ok (.int (iv (ds.getD (k + 1) .none))) := by rw [ixT (by omega)]; exact congrArg Rs.ok (all_num hx (by omega))
    exact e2_of (d := .int (iv (ds.getD k .none))) (e := .int (iv (ds.getD (k + 1) .none))) (e2_of (d := .tuple ds) (e := iD k) rfl rfl a1) (e2_of (d := .tuple ds) (e := iD (k + 1)) rfl (e2_of (d := iD k) (e := iD 1) rfl rfl (fAdd_N _ _)) a2) (fLt_int _ _)
  | _ => rfl
theorem rising_ok (h : ∀ ds, d = .tuple ds → ds.length ≤ 1000) : M__law_rising [d] = .ok (.bool (lotB d)) := by
  cases d with
  | tuple ds =>
    have hl := h ds rfl
    refine fn_wp rfl ?_
    show Wp (m__law_rising [.dat (.tuple ds), .un]) _
    have t : tmNot (tmTru (eCall M__law_numbers (aCons (eVar 0) aNil))) [.dat (.tuple ds), .un] = .ok (!ds.all numB, [.dat (.tuple ds), .un]) := tmNot_b (tr_of (call_b (ds := [.tuple ds]) (tone rfl) (lnums_ok (.tuple ds))))
    refine wp_out (en1 := [.dat (.tuple ds), .un]) (en2 := [.dat (.tuple ds), .un]) (d := .bool false) t (fun q => ⟨rfl, ?_⟩) (fun q => ?_)
    · have : ds.all numB = false := by cases z : ds.all numB with
        | true => rw [z] at q; cases q
        | false => rfl
      have z : lotB (.tuple ds) = false := by
        show (ds.all numB && riseB ds) = false
        rw [this]; rfl
      rw [z]
      exact rfl
    · have hx : ds.all numB = true := by cases z : ds.all numB with
        | true => rfl
        | false => rw [z] at q; cases q
      let p : D → Bool := fun x => lessB ds (iv x).toNat
      have hp : ((List.range (ds.length - 1)).map iD).all p = lotB (.tuple ds) := by
        rw [List.all_map]
        show _ = (ds.all numB && riseB ds)
        rw [hx, Bool.true_and]
        rfl
      rw [← hp]
      refine for_allB (p := p) (E := fun v => [.dat (.tuple ds), v]) (v0 := .un) (rng_1 rfl hl) (fun _ _ => rfl) fun x hx' => ?_
      obtain ⟨k, hk, rfl⟩ := List.mem_map.mp hx'
      have hk := List.mem_range.mp hk
      have a1 : fIx (.tuple ds) (iD k) = .ok (.int (iv (ds.getD k .none))) := by rw [ixT (by omega)]; exact congrArg Rs.ok (all_num hx (by omega))
      have a2 : fIx (.tuple ds) (iD (k + 1)) = .ok (.int (iv (ds.getD (k + 1) .none))) := by rw [ixT (by omega)]; exact congrArg Rs.ok (all_num hx (by omega))
      let Ek : En := [.dat (.tuple ds), .dat (iD k)]
      have t : tmB (e2 fGe (e2 fIx (eVar 0) (eVar 1)) (e2 fIx (eVar 0) (e2 fAdd (eVar 1) (eC (.int 1))))) Ek = .ok (!p (iD k), Ek) := by
        refine b_of (e2_of (d := .int (iv (ds.getD k .none))) (e := .int (iv (ds.getD (k + 1) .none))) (e2_of (d := .tuple ds) (e := iD k) rfl rfl a1) (e2_of (d := .tuple ds) (e := iD (k + 1)) rfl (e2_of (d := iD k) (e := iD 1) rfl rfl (fAdd_N _ _)) a2) ?_)
        rw [fGe_int]
        have : decide (iv (ds.getD (k + 1) .none) ≤ iv (ds.getD k .none)) = !p (iD k) := by
          show _ = !decide (iv (ds.getD k .none) < iv (ds.getD (k + 1) .none))
          rw [← decide_not]
          exact decide_eq_decide.mpr (by omega)
        rw [this]
      refine wp_if t (fun q => ?_) (fun q => ?_)
      · refine wp_ret (d := .bool false) (en1 := Ek) rfl ⟨fun h => ?_, fun _ => rfl⟩
        rw [h] at q; cases q
      · refine wp_next ⟨fun _ => ⟨rfl, rfl⟩, fun h => ?_⟩
        rw [h] at q; cases q
  | _ => rfl
end
end K42
end
section
set_option Elab.async false
set_option linter.all false
set_option maxRecDepth 100000
set_option maxHeartbeats 4000000
namespace K42
open PySem PySem.Spec PyProof.Rows L2 Mir
section
variable {d e a b : D} {ds es r : List D} {w : Str} {en en1 : En} {i j k n : Nat} {c : Int}
/-- data within bounds -/
def Bt (d : D) : Prop := ∀ ds, d = .tuple ds → ds.length ≤ 1000
structure Bd (d : D) : Prop where
  top : Bt d
  in_ : ∀ ds, d = .tuple ds → ∀ x ∈ ds, Bt x
  ok : ∀ w r, d = .tuple (.str w :: r) → PyData.strOk w = true
def lenB : D → Nat
  | .tuple ds => ds.length
  | _ => 0
def restB (w : Str) (r : List D) : Bool :=
  if w = "fear" ∨ w = "calm" then decide (r.length = 1) && lotB (r.getD 0 .none)
  else if w = "answer" then decide (r.length = 2) && (numsB (r.getD 0 .none) && (decide (0 < lenB (r.getD 0 .none)) && bitB (r.getD 1 .none)))
  else if w = "wire" ∨ w = "unwire" ∨ w = "leave" then decide (r.length = 2) && r.all numB
  else decide (w = "enter") && decide (r.length = 0)
def evB : D → Bool
  | .tuple (.str w :: r) => restB w r
  | _ => false
abbrev vE (w : Str) (r : List D) : En := [.dat (.tuple (.str w :: r)), .dat (.str w)]
def evRest : Sm :=
  (mSeq (mIf (tmOr (tmB (e2 fEq (eVar 1) (eC (.str "fear")))) (tmB (e2 fEq (eVar 1) (eC (.str "calm")))))
  (mRet (eCall M__is_lot_form (aCons (e2 fIx (eVar 0) (eC (.int 1))) aNil)))
  mNext)
  (mSeq (mIf (tmB (e2 fEq (eVar 1) (eC (.str "answer"))))
  (mRet (eAnd (eCall M__are_numbers (aCons (e2 fIx (eVar 0) (eC (.int 1))) aNil)) (eAnd (e2 fGt (eN fLen (aCons (e2 fIx (eVar 0) (eC (.int 1))) aNil)) (eC (.int 0))) (eCall M_is_bit (aCons (e2 fIx (eVar 0) (eC (.int 2))) aNil)))))
  mNext)
  (mRet (eCall M__are_numbers (aCons (eSl (eVar 0) (oSome (eC (.int 1))) oNone) aNil)))))
theorem ev_pre {z : Bool} (hl : r.length ≤ 999) (h0 : lkS tbL_COUNTS w = none → z = false) (h1 : ∀ c, lkS tbL_COUNTS w = some c → ((r.length + 1 : Nat) : Int) ≠ c → z = false) (h2 : ∀ c, lkS tbL_COUNTS w = some c → ((r.length + 1 : Nat) : Int) = c → Wp (evRest (vE w r)) (Is (.bool z))) :
    M_is_event [.tuple (.str w :: r)] = .ok (.bool z) := by
  refine fn_wp rfl ?_
  show Wp (m_is_event [.dat (.tuple (.str w :: r)), .un]) _
  let E0 : En := [.dat (.tuple (.str w :: r)), .un]
  have hlen : ∀ en : En, en[0]? = some (.dat (.tuple (.str w :: r))) → eN fLen (aCons (eVar 0) aNil) en = .ok (iD (r.length + 1), en) := fun en h => en1_of (d := .tuple (.str w :: r)) (by rw [eVar_ap, h]) rfl
  have ix0 : e2 fIx (eVar 0) (eC (.int 0)) E0 = .ok (.str w, E0) := e2_of (d := .tuple (.str w :: r)) (e := iD 0) rfl rfl (ixT (ds := .str w :: r) (k := 0) (Nat.succ_pos _))
  have is0 : eIsi .str (e2 fIx (eVar 0) (eC (.int 0))) E0 = .ok (.bool true, E0) := by rw [eIsi_ap, ix0, bind_ok]; rfl
  refine wp_no (en1 := E0) (or_no (tmNot_b (x := true) (tr_of (b := true) rfl)) (or_no (b_of (e2_of (d := iD (r.length + 1)) (e := iD 0) (hlen E0 rfl) rfl (by rw [fEq_N, decide_eq_false (by omega)]))) (tmNot_b (x := true) (tr_of is0)))) ?_
  refine wp_asgs (en1 := E0) (d := .str w) ix0 ?_
  have i1 : tmB (eInTb false tbL_COUNTS (eVar 1)) (vE w r) = .ok (false == (lkS tbL_COUNTS w).isSome, vE w r) := rfl
  cases q : lkS tbL_COUNTS w with
  | none =>
    rw [q] at i1
    refine wp_out (en1 := vE w r) (en2 := vE w r) (x := true) (d := .bool false) (tmOr_b (x := true) (y := true) i1 fun h => by cases h) (fun _ => ⟨rfl, ?_⟩) (fun h => by cases h)
    rw [h0 q]
    exact rfl
  | some c =>
    rw [q] at i1
    have i2 : eIxTb tbL_COUNTS (eVar 1) (vE w r) = .ok (.int c, vE w r) := by
      show (match lkS tbL_COUNTS w with
        | some i => Rs.ok (PyData.int i, vE w r)
        | none => .stk) = _
      rw [q]
    have t := tmOr_b (x := false) (y := !decide (((r.length + 1 : Nat) : Int) = c)) i1 fun _ => b_of (e2_of (d := iD (r.length + 1)) (e := .int c) (hlen (vE w r) rfl) i2 (fNe_int _ _))
    refine wp_out (en1 := vE w r) (en2 := vE w r) (d := .bool false) t (fun h => ⟨rfl, ?_⟩) (fun h => ?_)
    · rw [h1 c q fun z => by rw [decide_eq_true z] at h; cases h]
      exact rfl
    · refine h2 c q ?_
      by_cases z : ((r.length + 1 : Nat) : Int) = c
      · exact z
      · rw [decide_eq_false z] at h; cases h
theorem eqS {w v : Str} {r : List D} (hw : PyData.strOk w = true) (hv : PyData.strOk v = true) : tmB (e2 fEq (eVar 1) (eC (.str v))) (vE w r) = .ok (decide (w = v), vE w r) := b_of (e2_of (d := .str w) (e := .str v) rfl rfl (fEq_str hw hv))
theorem one_of (h : r.length = 1) : ∃ a, r = [a] := by
  match r, h with
  | [a], _ => exact ⟨a, rfl⟩
theorem two_of (h : r.length = 2) : ∃ a b, r = [a, b] := by
  match r, h with
  | [a, b], _ => exact ⟨a, b, rfl⟩
theorem ct_known {v : Str} {c : Int} (h : lkS tbL_COUNTS v = some c) : (v = "fear" ∨ v = "calm") ∧ c = 2 ∨ v = "answer" ∧ c = 3 ∨ (v = "wire" ∨ v = "unwire" ∨ v = "leave") ∧ c = 3 ∨ v = "enter" ∧ c = 1 := by
  unfold tbL_COUNTS at h
  simp only [lkS] at h
  split at h
  · rename_i q; cases h; exact .inl ⟨.inl q.symm, rfl⟩
  split at h
  · rename_i q; cases h; exact .inl ⟨.inr q.symm, rfl⟩
  split at h
  · rename_i q; cases h; exact .inr (.inl ⟨q.symm, rfl⟩)
  split at h
  · rename_i q; cases h; exact .inr (.inr (.inl ⟨.inl q.symm, rfl⟩))
  split at h
  · rename_i q; cases h; exact .inr (.inr (.inl ⟨.inr (.inl q.symm), rfl⟩))
  split at h
  · rename_i q; cases h; exact .inr (.inr (.inl ⟨.inr (.inr q.symm), rfl⟩))
  split at h
  · rename_i q; cases h; exact .inr (.inr (.inr ⟨q.symm, rfl⟩))
  · cases h
theorem ct_none {v : Str} (h : lkS tbL_COUNTS v = none) : restB v r = false := by
  have hk := lkS_none h
  have n : ∀ k ∈ tbL_COUNTS.map (·.1), v ≠ k := fun k hk' e => hk k hk' e.symm
  have n1 : v ≠ "fear" := n _ (by unfold tbL_COUNTS; simp)
  have n2 : v ≠ "calm" := n _ (by unfold tbL_COUNTS; simp)
  have n3 : v ≠ "answer" := n _ (by unfold tbL_COUNTS; simp)
  have n4 : v ≠ "wire" := n _ (by unfold tbL_COUNTS; simp)
  have n5 : v ≠ "unwire" := n _ (by unfold tbL_COUNTS; simp)
  have n6 : v ≠ "leave" := n _ (by unfold tbL_COUNTS; simp)
  have n7 : v ≠ "enter" := n _ (by unfold tbL_COUNTS; simp)
  unfold restB
  rw [if_neg (by rintro (q | q); exact n1 q; exact n2 q), if_neg n3, if_neg (by rintro (q | q | q); exact n4 q; exact n5 q; exact n6 q), decide_eq_false n7]
  rfl
end
end K42
end
section
set_option Elab.async false
set_option linter.all false
set_option maxRecDepth 100000
set_option maxHeartbeats 4000000
namespace K42
open PySem PySem.Spec PyProof.Rows L2 Mir
section
variable {d e a b : D} {ds es r : List D} {w : Str} {en en1 : En} {i j k n : Nat} {c : Int}
theorem rest_fear (h : w = "fear" ∨ w = "calm") : restB w r = (decide (r.length = 1) && lotB (r.getD 0 .none)) := if_pos h
theorem rest_ans : restB "answer" r = (decide (r.length = 2) && (numsB (r.getD 0 .none) && (decide (0 < lenB (r.getD 0 .none)) && bitB (r.getD 1 .none)))) := by
  unfold restB
  rw [if_neg (by decide +kernel), if_pos rfl]
theorem rest_wire (h : w = "wire" ∨ w = "unwire" ∨ w = "leave") : restB w r = (decide (r.length = 2) && r.all numB) := by
  unfold restB
  rcases h with rfl | rfl | rfl
  · rw [if_neg (by decide +kernel), if_neg (by decide +kernel), if_pos (by decide +kernel)]
  · rw [if_neg (by decide +kernel), if_neg (by decide +kernel), if_pos (by decide +kernel)]
  · rw [if_neg (by decide +kernel), if_neg (by decide +kernel), if_pos (by decide +kernel)]
theorem rest_enter : restB "enter" r = decide (r.length = 0) := by
  unfold restB
  rw [if_neg (by decide +kernel), if_neg (by decide +kernel), if_neg (by decide +kernel), decide_eq_true rfl, Bool.true_and]
theorem ix1 {x : D} {E : En} (hE : E[0]? = some (.dat (.tuple (x :: a :: r)))) : e2 fIx (eVar 0) (eC (.int 1)) E = .ok (a, E) := e2_of (d := .tuple (x :: a :: r)) (e := iD 1) (by rw [eVar_ap, hE]) rfl (ixT (ds := x :: a :: r) (k := 1) (by rw [List.length_cons, List.length_cons]; omega))
theorem ix2 {x : D} {E : En} (hE : E[0]? = some (.dat (.tuple (x :: a :: b :: r)))) : e2 fIx (eVar 0) (eC (.int 2)) E = .ok (b, E) := e2_of (d := .tuple (x :: a :: b :: r)) (e := iD 2) (by rw [eVar_ap, hE]) rfl (ixT (ds := x :: a :: b :: r) (k := 2) (by rw [List.length_cons, List.length_cons, List.length_cons]; omega))
theorem len_gt {m : Em} {E : En} (hm : m E = .ok (a, E)) (h : numsB a = true) : e2 fGt (eN fLen (aCons m aNil)) (eC (.int 0)) E = .ok (.bool (decide (0 < lenB a)), E) := by
  cases a with
  | tuple ds => exact e2_of (d := iD ds.length) (e := iD 0) (en1_of hm rfl) rfl (fGt_N _ 0)
  | _ => cases h
theorem ev_rest (H : Bd (.tuple (.str w :: r))) (hc : lkS tbL_COUNTS w = some c) (hl : ((r.length + 1 : Nat) : Int) = c) : Wp (evRest (vE w r)) (Is (.bool (restB w r))) := by
  have hi : ∀ x ∈ r, Bt x := fun x hx => H.in_ _ rfl x (List.mem_cons_of_mem _ hx)
  rcases ct_known hc with ⟨h, rfl⟩ | ⟨rfl, rfl⟩ | ⟨h, rfl⟩ | ⟨rfl, rfl⟩
  · obtain ⟨a, rfl⟩ := one_of (r := r) (by omega)
    have t : tmOr (tmB (e2 fEq (eVar 1) (eC (.str "fear")))) (tmB (e2 fEq (eVar 1) (eC (.str "calm")))) (vE w [a]) = .ok (true, vE w [a]) := by rcases h with rfl | rfl <;> kernel_rfl
    refine wp_out (en1 := vE w [a]) (en2 := vE w [a]) (d := .bool (lotB a)) t (fun _ => ⟨call_b (ds := [a]) (tone (ix1 rfl)) (lotform_ok (hi a (List.mem_cons_self ..))), ?_⟩) (fun h => by cases h)
    rw [rest_fear h]
    exact rfl
  · obtain ⟨a, b, rfl⟩ := two_of (r := r) (by omega)
    have t1 : tmOr (tmB (e2 fEq (eVar 1) (eC (.str "fear")))) (tmB (e2 fEq (eVar 1) (eC (.str "calm")))) (vE "answer" [a, b]) = .ok (false, vE "answer" [a, b]) := by kernel_rfl
    have t2 : tmB (e2 fEq (eVar 1) (eC (.str "answer"))) (vE "answer" [a, b]) = .ok (true, vE "answer" [a, b]) := by kernel_rfl
    refine wp_no t1 (wp_out (en2 := vE "answer" [a, b]) (d := .bool (numsB a && (decide (0 < lenB a) && bitB b))) t2 (fun _ => ⟨?_, ?_⟩) (fun h => by cases h))
    · exact eAnd_b (call_b (ds := [a]) (tone (ix1 rfl)) (nums_ok (hi a (List.mem_cons_self ..)))) fun q => eAnd_b (len_gt (ix1 rfl) q) fun _ => call_b (ds := [b]) (tone (ix2 rfl)) (bit_ok b)
    · rw [rest_ans]
      exact rfl
  · obtain ⟨a, b, rfl⟩ := two_of (r := r) (by omega)
    have t1 : tmOr (tmB (e2 fEq (eVar 1) (eC (.str "fear")))) (tmB (e2 fEq (eVar 1) (eC (.str "calm")))) (vE w [a, b]) = .ok (false, vE w [a, b]) := by rcases h with rfl | rfl | rfl <;> kernel_rfl
    have t2 : tmB (e2 fEq (eVar 1) (eC (.str "answer"))) (vE w [a, b]) = .ok (false, vE w [a, b]) := by rcases h with rfl | rfl | rfl <;> kernel_rfl
    refine wp_no t1 (wp_no t2 (wp_ret (d := .bool ([a, b].all numB)) (en1 := vE w [a, b]) (call_b (ds := [.tuple [a, b]]) (tone (by kernel_rfl)) (nums_ok fun ds h => by cases h; exact Nat.le_of_ble_eq_true rfl)) ?_))
    rw [rest_wire h]
    exact rfl
  · have hr : r = [] := List.length_eq_zero_iff.mp (by omega)
    subst hr
    have t1 : tmOr (tmB (e2 fEq (eVar 1) (eC (.str "fear")))) (tmB (e2 fEq (eVar 1) (eC (.str "calm")))) (vE "enter" []) = .ok (false, vE "enter" []) := by kernel_rfl
    have t2 : tmB (e2 fEq (eVar 1) (eC (.str "answer"))) (vE "enter" []) = .ok (false, vE "enter" []) := by kernel_rfl
    refine wp_no t1 (wp_no t2 (wp_ret (d := .bool true) (en1 := vE "enter" []) (call_b (ds := [.tuple []]) (tone (by kernel_rfl)) (nums_ok fun ds h => by cases h; exact Nat.le_of_ble_eq_true rfl)) ?_))
    rw [rest_enter]
    exact rfl
theorem ev_first {x : D} (hx : isi .str x = false) : M_is_event [.tuple (x :: r)] = .ok (.bool false) := by
  refine fn_wp rfl ?_
  show Wp (m_is_event [.dat (.tuple (x :: r)), .un]) _
  let E0 : En := [.dat (.tuple (x :: r)), .un]
  have ix0 : e2 fIx (eVar 0) (eC (.int 0)) E0 = .ok (x, E0) := e2_of (d := .tuple (x :: r)) (e := iD 0) rfl rfl (ixT (ds := x :: r) (k := 0) (Nat.succ_pos _))
  have is0 : eIsi .str (e2 fIx (eVar 0) (eC (.int 0))) E0 = .ok (.bool false, E0) := by rw [eIsi_ap, ix0, bind_ok, hx]
  exact wp_out (en1 := E0) (en2 := E0) (x := true) (d := .bool false) (or_no (tmNot_b (x := true) (tr_of (b := true) rfl)) (or_no (b_of (e2_of (d := iD (r.length + 1)) (e := iD 0) (en1_of (d := .tuple (x :: r)) rfl rfl) rfl (by rw [fEq_N, decide_eq_false (by omega)]))) (tmNot_b (x := false) (tr_of is0)))) (fun _ => ⟨rfl, rfl⟩) (fun h => by cases h)
theorem is_event_ok (H : Bd d) : M_is_event [d] = .ok (.bool (evB d)) := by
  cases d with
  | tuple ds =>
    cases ds with
    | nil => rfl
    | cons x r =>
      cases x with
      | str w =>
        have hl := H.top _ rfl
        rw [List.length_cons] at hl
        refine ev_pre (z := restB w r) (by omega) ct_none (fun c hc hn => ?_) (fun c hc hl => ev_rest H hc hl)
        rcases ct_known hc with ⟨h, rfl⟩ | ⟨rfl, rfl⟩ | ⟨h, rfl⟩ | ⟨rfl, rfl⟩
        · rw [rest_fear h, decide_eq_false (by omega)]; rfl
        · rw [rest_ans, decide_eq_false (by omega)]; rfl
        · rw [rest_wire h, decide_eq_false (by omega)]; rfl
        · rw [rest_enter, decide_eq_false (by omega)]
      | _ => exact ev_first rfl
  | _ => rfl
end
end K42
end
section
set_option Elab.async false
set_option linter.all false
set_option maxRecDepth 100000
set_option maxHeartbeats 4000000
namespace K42
open PySem PySem.Spec PyProof.Rows L2 Mir
section
variable {d e a b : D} {ds es r : List D} {w : Str} {en en1 : En} {i j k n : Nat} {c : Int}
theorem len_eq (m : Nat) : e2 fEq (eN fLen (aCons (eVar 0) aNil)) (eC (.int ((m + 1 : Nat) : Int))) (vE w r) = .ok (.bool (decide (r.length = m)), vE w r) := by
  refine e2_of (d := iD (r.length + 1)) (e := iD (m + 1)) (en1_of (d := .tuple (.str w :: r)) rfl rfl) rfl ?_
  rw [fEq_N]
  congr 2
  exact decide_eq_decide.mpr (by omega)
theorem bit_law : (numB b && decide (iv b < 2)) = bitB b := by
  cases b with
  | int i =>
    show (decide (0 ≤ i) && decide (i < 2)) = (decide (0 ≤ i) && decide (i ≤ 1))
    congr 1
    exact decide_eq_decide.mpr (by omega)
  | _ => rfl
def fmRest : Sm :=
  (mSeq (mIf (tmOr (tmB (e2 fEq (eVar 1) (eC (.str "fear")))) (tmB (e2 fEq (eVar 1) (eC (.str "calm")))))
  (mRet (eAnd (e2 fEq (eN fLen (aCons (eVar 0) aNil)) (eC (.int 2))) (eCall M__law_rising (aCons (e2 fIx (eVar 0) (eC (.int 1))) aNil))))
  mNext)
  (mSeq (mIf (tmB (e2 fEq (eVar 1) (eC (.str "answer"))))
  (mSeq (mIf (tmOr (tmB (e2 fNe (eN fLen (aCons (eVar 0) aNil)) (eC (.int 3)))) (tmOr (tmNot (tmTru (eCall M__law_numbers (aCons (e2 fIx (eVar 0) (eC (.int 1))) aNil)))) (tmB (e2 fEq (eN fLen (aCons (e2 fIx (eVar 0) (eC (.int 1))) aNil)) (eC (.int 0))))))
  (mRet (eC (.bool false)))
  mNext)
  (mRet (eAnd (eCall M__law_number (aCons (e2 fIx (eVar 0) (eC (.int 2))) aNil)) (e2 fLt (e2 fIx (eVar 0) (eC (.int 2))) (eC (.int 2))))))
  mNext)
  (mSeq (mIf (tmOr (tmB (e2 fEq (eVar 1) (eC (.str "wire")))) (tmOr (tmB (e2 fEq (eVar 1) (eC (.str "unwire")))) (tmB (e2 fEq (eVar 1) (eC (.str "leave"))))))
  (mRet (eAnd (e2 fEq (eN fLen (aCons (eVar 0) aNil)) (eC (.int 3))) (eAnd (eCall M__law_number (aCons (e2 fIx (eVar 0) (eC (.int 1))) aNil)) (eCall M__law_number (aCons (e2 fIx (eVar 0) (eC (.int 2))) aNil)))))
  mNext)
  (mRet (eAnd (e2 fEq (eVar 1) (eC (.str "enter"))) (e2 fEq (eN fLen (aCons (eVar 0) aNil)) (eC (.int 1))))))))
theorem eqv (hw : PyData.strOk w = true) (v : Str) (hv : PyData.strOk v = true) : tmB (e2 fEq (eVar 1) (eC (.str v))) (vE w r) = .ok (decide (w = v), vE w r) := eqS hw hv
theorem fm_rest (H : Bd (.tuple (.str w :: r))) : Wp (fmRest (vE w r)) (Is (.bool (restB w r))) := by
  have hw := H.ok w r rfl
  have hi : ∀ x ∈ r, Bt x := fun x hx => H.in_ _ rfl x (List.mem_cons_of_mem _ hx)
  have t1 : tmOr (tmB (e2 fEq (eVar 1) (eC (.str "fear")))) (tmB (e2 fEq (eVar 1) (eC (.str "calm")))) (vE w r) = .ok (decide (w = "fear") || decide (w = "calm"), vE w r) := tmOr_b (eqv hw _ (by kernel_rfl)) fun _ => eqv hw _ (by kernel_rfl)
  refine wp_out (en2 := vE w r) (d := .bool (decide (r.length = 1) && lotB (r.getD 0 .none))) t1 (fun q => ?_) (fun q => ?_)
  · have h : w = "fear" ∨ w = "calm" := by
      rw [Bool.or_eq_true, decide_eq_true_iff, decide_eq_true_iff] at q
      exact q
    refine ⟨eAnd_b (len_eq 1) fun q => ?_, ?_⟩
    · obtain ⟨a, rfl⟩ := one_of (of_decide_eq_true q)
      exact call_b (ds := [a]) (tone (ix1 rfl)) (rising_ok (hi a (List.mem_cons_self ..)))
    · rw [rest_fear h]; exact rfl
  rw [Bool.or_eq_false_iff, decide_eq_false_iff_not, decide_eq_false_iff_not] at q
  obtain ⟨n1, n2⟩ := q
  refine wp_bind (wp_if (eqv hw "answer" (by kernel_rfl)) (fun q => ?_) (fun q => ?_))
  · have h := of_decide_eq_true q
    subst h
    rw [rest_ans]
    have tl : tmB (e2 fNe (eN fLen (aCons (eVar 0) aNil)) (eC (.int 3))) (vE "answer" r) = .ok (!decide (r.length = 2), vE "answer" r) := by
      refine b_of (e2_of (d := iD (r.length + 1)) (e := iD 3) (en1_of (d := .tuple (.str "answer" :: r)) rfl rfl) rfl ?_)
      rw [fNe_N]
      congr 3
      exact decide_eq_decide.mpr (by omega)
    cases z : decide (r.length = 2) with
    | false =>
      rw [z] at tl
      exact wp_out (en2 := vE "answer" r) (x := true) (d := .bool false) (tmOr_b (x := true) (y := true) tl fun h => by cases h) (fun _ => ⟨rfl, rfl⟩) (fun h => by cases h)
    | true =>
      obtain ⟨a, b, rfl⟩ := two_of (of_decide_eq_true z)
      rw [z] at tl
      have tn : tmNot (tmTru (eCall M__law_numbers (aCons (e2 fIx (eVar 0) (eC (.int 1))) aNil))) (vE "answer" [a, b]) = .ok (!numsB a, vE "answer" [a, b]) := tmNot_b (tr_of (call_b (ds := [a]) (tone (ix1 rfl)) (lnums_ok a)))
      cases y : numsB a with
      | false =>
        rw [y] at tn
        refine wp_out (en2 := vE "answer" [a, b]) (x := true) (d := .bool false) (or_no tl (tmOr_b (x := true) (y := true) tn fun h => by cases h)) (fun _ => ⟨rfl, ?_⟩) (fun h => by cases h)
        show Th _ (Is (.bool (true && (numsB a && _)))) _ _
        rw [y]
        exact rfl
      | true =>
        rw [y] at tn
        have te : tmB (e2 fEq (eN fLen (aCons (e2 fIx (eVar 0) (eC (.int 1))) aNil)) (eC (.int 0))) (vE "answer" [a, b]) = .ok (!decide (0 < lenB a), vE "answer" [a, b]) := by
          cases a with
          | tuple ds =>
            refine b_of (e2_of (d := iD ds.length) (e := iD 0) (en1_of (d := .tuple ds) (ix1 rfl) rfl) rfl ?_)
            rw [fEq_N]
            congr 2
            show _ = !decide (0 < ds.length)
            rw [← decide_not]
            exact decide_eq_decide.mpr (by omega)
          | _ => cases y
        refine wp_out (en2 := vE "answer" [a, b]) (d := .bool false) (or_no tl (or_no tn te)) (fun q => ⟨rfl, ?_⟩) (fun q => ?_)
        · have z2 : decide (0 < lenB a) = false := by cases z2 : decide (0 < lenB a) with
            | true => rw [z2] at q; cases q
            | false => rfl
          show Th _ (Is (.bool (true && (numsB a && (decide (0 < lenB a) && bitB b))))) _ _
          rw [y, z2]
          exact rfl
        · have z2 : decide (0 < lenB a) = true := by cases z2 : decide (0 < lenB a) with
            | false => rw [z2] at q; cases q
            | true => rfl
          refine wp_ret (d := .bool (bitB b)) (en1 := vE "answer" [a, b]) ?_ ?_
          · rw [← bit_law]
            refine eAnd_b (call_b (ds := [b]) (tone (ix2 rfl)) (lnum_ok b)) fun hb => ?_
            have hb' := num_int hb
            refine e2_of (d := b) (e := .int 2) (ix2 rfl) rfl ?_
            rw [hb']
            exact fLt_int _ _
          · show Th _ (Is (.bool (true && (numsB a && (decide (0 < lenB a) && bitB b))))) _ _
            rw [y, z2]
            exact rfl
  have n3 := of_decide_eq_false q
  refine wp_next ?_
  have t3 : tmOr (tmB (e2 fEq (eVar 1) (eC (.str "wire")))) (tmOr (tmB (e2 fEq (eVar 1) (eC (.str "unwire")))) (tmB (e2 fEq (eVar 1) (eC (.str "leave"))))) (vE w r) = .ok (decide (w = "wire") || (decide (w = "unwire") || decide (w = "leave")), vE w r) :=
    tmOr_b (eqv hw _ (by kernel_rfl)) fun _ => tmOr_b (eqv hw _ (by kernel_rfl)) fun _ => eqv hw _ (by kernel_rfl)
  refine wp_out (en2 := vE w r) (d := .bool (decide (r.length = 2) && r.all numB)) t3 (fun q => ?_) (fun q => ?_)
  · have h : w = "wire" ∨ w = "unwire" ∨ w = "leave" := by
      rw [Bool.or_eq_true, Bool.or_eq_true, decide_eq_true_iff, decide_eq_true_iff, decide_eq_true_iff] at q
      exact q
    refine ⟨eAnd_b (len_eq 2) fun q => ?_, ?_⟩
    · obtain ⟨a, b, rfl⟩ := two_of (of_decide_eq_true q)
      have : [a, b].all numB = (numB a && numB b) := by rw [List.all_cons, List.all_cons, List.all_nil, Bool.and_true]
      rw [this]
      exact eAnd_b (call_b (ds := [a]) (tone (ix1 rfl)) (lnum_ok a)) fun _ => call_b (ds := [b]) (tone (ix2 rfl)) (lnum_ok b)
    · rw [rest_wire h]; exact rfl
  rw [Bool.or_eq_false_iff, Bool.or_eq_false_iff, decide_eq_false_iff_not, decide_eq_false_iff_not, decide_eq_false_iff_not] at q
  obtain ⟨n4, n5, n6⟩ := q
  have hr : restB w r = (decide (w = "enter") && decide (r.length = 0)) := by
    unfold restB
    rw [if_neg (by rintro (q | q); exact n1 q; exact n2 q), if_neg n3, if_neg (by rintro (q | q | q); exact n4 q; exact n5 q; exact n6 q)]
  rw [hr]
  exact wp_ret (en1 := vE w r) (eAnd_b (e2_of (d := .str w) (e := .str "enter") rfl rfl (fEq_str hw (by kernel_rfl))) fun _ => len_eq 0) rfl
theorem law_form_ok (H : Bd d) : M__law_form [d] = .ok (.bool (evB d)) := by
  cases d with
  | tuple ds =>
    cases ds with
    | nil => rfl
    | cons x r =>
      let E0 : En := [.dat (.tuple (x :: r)), .un]
      have ix0 : e2 fIx (eVar 0) (eC (.int 0)) E0 = .ok (x, E0) := e2_of (d := .tuple (x :: r)) (e := iD 0) rfl rfl (ixT (ds := x :: r) (k := 0) (Nat.succ_pos _))
      have is0 : eIsi .str (e2 fIx (eVar 0) (eC (.int 0))) E0 = .ok (.bool (isi .str x), E0) := by rw [eIsi_ap, ix0, bind_ok]
      have t := or_no (tmNot_b (x := true) (tr_of (b := true) (a := eIsi .tup (eVar 0)) (en := E0) rfl)) (or_no (b_of (e2_of (f := fEq) (a := eN fLen (aCons (eVar 0) aNil)) (b := eC (.int 0)) (d := iD (r.length + 1)) (e := iD 0) (en1_of (d := .tuple (x :: r)) rfl rfl) rfl (by rw [fEq_N, decide_eq_false (by omega)]))) (tmNot_b (tr_of is0)))
      refine fn_wp rfl ?_
      show Wp (m__law_form E0) _
      cases x with
      | str w =>
        refine wp_no t ?_
        refine wp_asgs (en1 := E0) (d := .str w) ix0 ?_
        exact fm_rest H
      | _ => exact wp_out (en2 := E0) (d := .bool false) t (fun _ => ⟨rfl, rfl⟩) (fun h => by cases h)
  | _ => rfl
end
end K42
end
section
set_option Elab.async false
set_option linter.all false
set_option maxRecDepth 100000
set_option maxHeartbeats 4000000
namespace Mir
open PySem PySem.Spec PyProof.Rows L2
def getT : List (List Int × D) → List Int → Option D
  | [], _ => none
  | (k, d) :: r, i => if k = i then some d else getT r i
end Mir
end
section
set_option Elab.async false
set_option linter.all false
set_option maxRecDepth 100000
set_option maxHeartbeats 4000000
namespace Mir
open PySem PySem.Spec PyProof.Rows L2
theorem atI_map {A : Type} (f : A → D) (l : List A) (i : Nat) (h : i < l.length) : atI (l.map f) (i : Int) = some (f l[i]) := by
  unfold atI ixN
  rw [if_pos (by omega), if_pos (by rw [List.length_map]; omega)]
  show (l.map f)[((i : Int)).toNat]? = _
  rw [Int.toNat_natCast, List.getElem?_map, List.getElem?_eq_getElem h]
  rfl
end Mir
end
section
set_option Elab.async false
set_option linter.all false
set_option maxRecDepth 100000
set_option maxHeartbeats 4000000
namespace K42
open PySem PySem.Spec PyProof.Rows L2 Mir
section
variable {xs : List Int} {i j k n m : Nat}
structure Dv where
  (at_ p s t : Nat)
def dr (xs : List Int) (v : Dv) : MO := .dl [.list (xs.map PyData.int), iD v.at_, iD v.p, iD v.s, iD v.t]
def Ok (v : Dv) : Prop := v.s < 2 ^ 31 ∧ v.t < 2 ^ 31
theorem fMod_Z (z : Int) {m : Nat} (hm : 0 < m) : fMod (.int z) (iD m) = .ok (iD (z % (m : Int)).toNat) := by
  show (if okMod z (m : Int) = true then Rs.ok (PyData.int (z % (m : Int))) else .stk) = _
  rw [if_pos (show okMod z (m : Int) = true from decide_eq_true (by omega))]
  have : z % (m : Int) = (((z % (m : Int)).toNat : Nat) : Int) := by
    have := Int.emod_nonneg z (show (m : Int) ≠ 0 by omega)
    omega
  exact congrArg (fun i => Rs.ok (PyData.int i)) this
theorem fMod_lt (z : Int) {m : Nat} (hm : 0 < m) : (z % (m : Int)).toNat < m := by
  have h1 := Int.emod_nonneg z (show (m : Int) ≠ 0 by omega)
  have h2 := Int.emod_lt_of_pos z (show (0 : Int) < m by omega)
  omega
abbrev dE (xs : List Int) (v : Dv) (m : Nat) (v2 v3 : SV) : En := [.own (dr xs v), .dat (iD m), v2, v3]
theorem dSet {v : Dv} {v2 v3 : SV} {ix : Nat} {e : Em} {d : D} {v' : Dv} (he : e (dE xs v m v2 v3) = .ok (d, dE xs v m v2 v3)) (hi : ix < 5)
    (hv : [PyData.list (xs.map PyData.int), iD v.at_, iD v.p, iD v.s, iD v.t].set ix d = [.list (xs.map PyData.int), iD v'.at_, iD v'.p, iD v'.s, iD v'.t]) : mSetD 0 (eC (iD ix)) e (dE xs v m v2 v3) = .ok (.nx, dE xs v' m v2 v3) := by
  unfold mSetD
  rw [he, bind_ok]
  show (match ixI 5 (iD ix) with
    | none => Rs.stk
    | some j => Rs.ok (Fl.nx, (dE xs v m v2 v3).set 0 (.own (.dl ([PyData.list (xs.map PyData.int), iD v.at_, iD v.p, iD v.s, iD v.t].set j d))))) = _
  rw [ixI_N hi]
  dsimp only
  rw [hv]
  rfl
theorem draw_ok {v : Dv} (h : Ok v) (hm : 1 ≤ m) (hm2 : m < 2 ^ 62) : ∃ k v', M__law_draw (dr xs v) [iD m] = .ok (iD k, dr xs v') ∧ Ok v' ∧ k < m := by
  obtain ⟨d, mo', e, k, v', rfl, rfl, h1, h2⟩ := fnD_ex (m := m__law_draw) (n := 4) (k := 2) (mo := dr xs v) (ds := [iD m]) (P := fun d mo' => ∃ k v', d = iD k ∧ mo' = dr xs v' ∧ Ok v' ∧ k < m) rfl (by
    show Wp (m__law_draw (dE xs v m .un .un)) _
    have d0 : ∀ v v2 v3, eDIx 0 (eC (.int 0)) (dE xs v m v2 v3) = .ok (.list (xs.map PyData.int), dE xs v m v2 v3) := fun _ _ _ => rfl
    have d1 : ∀ v v2 v3, eDIx 0 (eC (.int 1)) (dE xs v m v2 v3) = .ok (iD v.at_, dE xs v m v2 v3) := fun _ _ _ => rfl
    have d2 : ∀ v v2 v3, eDIx 0 (eC (.int 2)) (dE xs v m v2 v3) = .ok (iD v.p, dE xs v m v2 v3) := fun _ _ _ => rfl
    have d3 : ∀ v v2 v3, eDIx 0 (eC (.int 3)) (dE xs v m v2 v3) = .ok (iD v.s, dE xs v m v2 v3) := fun _ _ _ => rfl
    have d4 : ∀ v v2 v3, eDIx 0 (eC (.int 4)) (dE xs v m v2 v3) = .ok (iD v.t, dE xs v m v2 v3) := fun _ _ _ => rfl
    have dl : eN fLen (aCons (eDIx 0 (eC (.int 0))) aNil) (dE xs v m .un .un) = .ok (iD xs.length, dE xs v m .un .un) := en1_of (d0 _ _ _) (by show Rs.ok (PyData.int (((xs.map PyData.int).length : Nat) : Int)) = _; rw [List.length_map])
    have t1 : tmAnd (tmB (e2 fLt (eDIx 0 (eC (.int 2))) (eVar 1))) (tmB (e2 fLt (eDIx 0 (eC (.int 1))) (eN fLen (aCons (eDIx 0 (eC (.int 0))) aNil)))) (dE xs v m .un .un) = .ok (decide (v.p < m) && decide (v.at_ < xs.length), dE xs v m .un .un) :=
      tmAnd_b (b_of (e2_of (d := iD v.p) (e := iD m) (d2 _ _ _) rfl (fLt_N _ _))) fun _ => b_of (e2_of (d := iD v.at_) (e := iD xs.length) (d1 _ _ _) dl (fLt_N _ _))
    have back : ∀ (v : Dv) (v2 : SV), Ok v → Wp ((mSeq (mIf (tmB (e2 fGe (eDIx 0 (eC (.int 2))) (eVar 1)))
  (mSeq (mAsg (gmName 3) (e2 fMod (eN fInt (aCons (eDIx 0 (eC (.int 2))) aNil)) (eVar 1)))
  (mSeq (mSetD 0 (eC (.int 2)) (e2 fDiv (eDIx 0 (eC (.int 2))) (eVar 1)))
  (mRet (eVar 3))))
  mNext)
  (mSeq (mSetD 0 (eC (.int 3)) (e2 fMod (eN fInt (aCons (e2 fAdd (e2 fMul (eDIx 0 (eC (.int 3))) (eC (.int 48271))) (eC (.int 90173))) aNil)) (eC (.int 2147483629))))
  (mSeq (mSetD 0 (eC (.int 4)) (e2 fMod (eN fInt (aCons (e2 fAdd (e2 fMul (eDIx 0 (eC (.int 4))) (eC (.int 69621))) (eDIx 0 (eC (.int 3)))) aNil)) (eC (.int 2147483587))))
  (mRet (e2 fMod (eN fInt (aCons (e2 fAdd (e2 fDiv (eDIx 0 (eC (.int 3))) (eC (.int 5))) (e2 fDiv (eDIx 0 (eC (.int 4))) (eC (.int 3)))) aNil)) (eVar 1)))))) (dE xs v m v2 .un)) (fun fl en => ∃ d mo', fl = .rt d ∧ pinAt en 0 = some mo' ∧ ∃ k v', d = iD k ∧ mo' = dr xs v' ∧ Ok v' ∧ k < m) := by
      intro v v2 h
      refine wp_ifs (x := decide (m ≤ v.p)) (en1 := dE xs v m v2 .un) (b_of (e2_of (d := iD v.p) (e := iD m) (d2 _ _ _) rfl (fGe_N _ _))) (fun _ => ?_) (fun _ => ?_)
      · refine wp_asgs (d := iD (v.p % m)) (en1 := dE xs v m v2 .un) (e2_of (d := iD v.p) (e := iD m) (en1_of (d2 _ _ _) fInt_int) rfl (fMod_N (by omega))) ?_
        refine wp_seq (dSet (v' := ⟨v.at_, v.p / m, v.s, v.t⟩) (ix := 2) (e2_of (d := iD v.p) (e := iD m) (d2 _ _ _) rfl (fDiv_N (by omega) hm2)) (by decide) rfl) ?_
        exact wp_ret (d := iD (v.p % m)) rfl ⟨_, _, rfl, rfl, v.p % m, ⟨v.at_, v.p / m, v.s, v.t⟩, rfl, rfl, h, Nat.mod_lt _ (by omega)⟩
      · refine wp_next ?_
        let s' := (v.s * 48271 + 90173) % 2147483629
        let t' := (v.t * 69621 + s') % 2147483587
        have hs : s' < 2147483629 := Nat.mod_lt _ (by decide)
        have ht : t' < 2147483587 := Nat.mod_lt _ (by decide)
        have h1 := h.1
        have h2 := h.2
        refine wp_seq (dSet (v' := ⟨v.at_, v.p, s', v.t⟩) (ix := 3) (e2_of (d := iD (v.s * 48271 + 90173)) (e := iD 2147483629) (en1_of (d := iD (v.s * 48271 + 90173)) (e2_of (d := iD (v.s * 48271)) (e := iD 90173) (e2_of (d := iD v.s) (e := iD 48271) (d3 _ _ _) rfl (fMul_N (by omega) (by decide))) rfl (fAdd_N _ _)) fInt_int) rfl (fMod_N (by decide))) (by decide) rfl) ?_
        refine wp_seq (dSet (v := ⟨v.at_, v.p, s', v.t⟩) (v' := ⟨v.at_, v.p, s', t'⟩) (ix := 4) (e2_of (d := iD (v.t * 69621 + s')) (e := iD 2147483587) (en1_of (d := iD (v.t * 69621 + s')) (e2_of (d := iD (v.t * 69621)) (e := iD s') (e2_of (d := iD v.t) (e := iD 69621) (d4 _ _ _) rfl (fMul_N (by omega) (by decide))) (d3 _ _ _) (fAdd_N _ _)) fInt_int) rfl (fMod_N (by decide))) (by decide) rfl) ?_
        exact wp_ret (d := iD ((s' / 5 + t' / 3) % m)) (en1 := dE xs ⟨v.at_, v.p, s', t'⟩ m v2 .un) (e2_of (d := iD (s' / 5 + t' / 3)) (e := iD m) (en1_of (d := iD (s' / 5 + t' / 3)) (e2_of (d := iD (s' / 5)) (e := iD (t' / 3)) (e2_of (d := iD s') (e := iD 5) (d3 _ _ _) rfl (fDiv_N (by decide) (by decide))) (e2_of (d := iD t') (e := iD 3) (d4 _ _ _) rfl (fDiv_N (by decide) (by decide))) (fAdd_N _ _)) fInt_int) rfl (fMod_N (by omega))) ⟨_, _, rfl, rfl, _, ⟨v.at_, v.p, s', t'⟩, rfl, rfl, ⟨by show s' < 2 ^ 31; omega, by show t' < 2 ^ 31; omega⟩, Nat.mod_lt _ (by omega)⟩
    refine wp_ifs t1 (fun q => ?_) (fun _ => wp_next (back v .un h))
    rw [Bool.and_eq_true, decide_eq_true_iff, decide_eq_true_iff] at q
    obtain ⟨_, ha⟩ := q
    let c := xs[v.at_]
    have ci : e2 fIx (eDIx 0 (eC (.int 0))) (eDIx 0 (eC (.int 1))) (dE xs v m .un .un) = .ok (.int c, dE xs v m .un .un) := e2_of (d := .list (xs.map PyData.int)) (e := iD v.at_) (d0 _ _ _) (d1 _ _ _) (by
      show (match atI (xs.map PyData.int) (v.at_ : Int) with
        | some z => Rs.ok z
        | none => .stk) = _
      rw [atI_map PyData.int xs v.at_ ha])
    refine wp_asgs (d := .int c) (en1 := dE xs v m .un .un) ci ?_
    refine wp_seq (dSet (v2 := .dat (.int c)) (v' := ⟨v.at_ + 1, v.p, v.s, v.t⟩) (ix := 1) (e2_of (d := iD v.at_) (e := iD 1) (d1 _ _ _) rfl (fAdd_N _ _)) (by decide) rfl) ?_
    let z : Int := (v.s * 48271 : Nat) + c + 90173
    let s' := (z % 2147483629).toNat
    have hs : s' < 2147483629 := fMod_lt z (m := 2147483629) (by decide)
    have h1 := h.1
    have h2 := h.2
    let v1 : Dv := ⟨v.at_ + 1, v.p, v.s, v.t⟩
    let v2' : Dv := ⟨v.at_ + 1, v.p, s', v.t⟩
    refine wp_seq (dSet (v := v1) (v2 := .dat (.int c)) (v' := v2') (ix := 3) (e2_of (d := .int z) (e := iD 2147483629) (en1_of (d := .int z) (e2_of (d := .int ((v.s * 48271 : Nat) + c)) (e := .int 90173) (e2_of (d := iD (v.s * 48271)) (e := .int c) (e2_of (d := iD v.s) (e := iD 48271) (d3 _ _ _) rfl (fMul_N (by omega) (by decide))) rfl (fAdd_int _ _)) rfl (fAdd_int _ _)) fInt_int) rfl (fMod_Z z (by decide))) (by decide) rfl) ?_
    have ok2 : Ok v2' := ⟨by show s' < 2 ^ 31; omega, h2⟩
    have ab : ∀ v, eN fAbs (aCons (eVar 2) aNil) (dE xs v m (.dat (.int c)) .un) = .ok (iD c.natAbs, dE xs v m (.dat (.int c)) .un) := fun v => en1_of (d := .int c) rfl (fAbs_I _)
    have t2 : tmB (e2 fGe (eN fAbs (aCons (eVar 2) aNil)) (e2 fPow (eC (.int 10)) (eC (.int 18)))) (dE xs v2' m (.dat (.int c)) .un) = .ok (decide (10 ^ 18 ≤ c.natAbs), dE xs v2' m (.dat (.int c)) .un) :=
      b_of (e2_of (d := iD c.natAbs) (e := iD (10 ^ 18)) (ab _) (e2_of (d := .int 10) (e := .int 18) rfl rfl (by kernel_rfl)) (fGe_N _ _))
    refine wp_if t2 (fun _ => ?_) (fun _ => wp_next (back v2' _ ok2))
    exact ⟨.nx, _, dSet (v := v2') (v2 := .dat (.int c)) (v' := ⟨v.at_ + 1, c.natAbs, s', v.t⟩) (ix := 2) (ab _) (by decide) rfl, back ⟨v.at_ + 1, c.natAbs, s', v.t⟩ _ ok2⟩)
  exact ⟨k, v', e, h1, h2⟩
theorem drw {v : Dv} (h : Ok v) {i : Nat} {en : En} {a : Em} (he : en[i]? = some (.own (dr xs v))) (ha : a en = .ok (iD m, en)) (hm : 1 ≤ m) (hm2 : m < 2 ^ 62 := by omega) : ∃ k v', eCallD M__law_draw i (aCons a aNil) en = .ok (iD k, en.set i (.own (dr xs v'))) ∧ Ok v' ∧ k < m := by
  obtain ⟨k, v', e, h1, h2⟩ := draw_ok (xs := xs) h hm hm2
  refine ⟨k, v', ?_, h1, h2⟩
  have p : pinAt en i = some (dr xs v) := by rw [pinAt_ap, he]; rfl
  rw [eCallD_ap, p]
  dsimp only
  rw [tone ha, bind_ok]
  dsimp only
  rw [p]
  dsimp only
  rw [e]
  rfl
end
end K42
end
section
set_option Elab.async false
set_option linter.all false
set_option maxRecDepth 100000
set_option maxHeartbeats 4000000
namespace K42
open PySem PySem.Spec PyProof.Rows L2 Mir
section
variable {d e a b : D} {ds es r : List D} {w : Str} {en en1 : En} {i j k n : Nat} {z : Bool}
theorem fNe_bb (b : Bool) : fNe (.bool b) (.bool b) = .ok (.bool false) := by cases b <;> kernel_rfl
theorem callK_is {m : List D → Rs D} {n k : Nat} {perm : List Nat} {a b : Am} {en en1 en2 : En} {ds es : List D} {d : D} (ha : a en = .ok (ds, en1)) (hb : b en1 = .ok (es, en2)) (hn : ds.length = n) (hk : es.length = k) (hm : m (permL perm (ds ++ es)) = .ok d) : eCallK m n k perm a b en = .ok (d, en2) := by
  rw [eCallK_ap, ha, bind_ok]
  dsimp only
  rw [hb, bind_ok]
  dsimp only
  rw [if_pos ⟨hn, hk⟩, hm]
  rfl
theorem callK1 {m : List D → Rs D} {x : D} (ha : aCons (eVar 0) aNil en = .ok ([d], en)) (hm : m [d] = .ok x) : eCallK m 0 1 [0] aNil (aCons (eVar 0) aNil) en = .ok (x, en) := by
  exact callK_is (ds := []) (es := [d]) tnil ha rfl rfl hm
theorem law_told_ok (H : Bd d) (hz : evB d = z) : M__law_told [d, .bool z] = .ok (.bool true) := by
  subst hz
  have he := is_event_ok H
  refine fn_wp rfl ?_
  show Wp (m__law_told [.dat d, .dat (.bool (evB d)), .un, .un]) _
  let E : SV → En := fun v => [.dat d, .dat (.bool (evB d)), .dat (.bool (evB d)), v]
  refine wp_asgs (en1 := [.dat d, .dat (.bool (evB d)), .un, .un]) (d := .bool (evB d)) (call_b (ds := [d]) (tone rfl) he) ?_
  refine wp_no (en1 := E .un) (or_no rfl (b_of (e2_of (d := .bool (evB d)) (e := .bool (evB d)) rfl rfl (fNe_bb _)))) ?_
  refine wp_out (en1 := E .un) (en2 := E .un) (x := !evB d) (d := .bool true) (tmNot_b (tr_of rfl)) (fun _ => ⟨rfl, rfl⟩) (fun q => ?_)
  refine wp_asgs (en1 := E .un) (d := .bool (evB d)) (callK1 rfl he) ?_
  have hq : evB d = true := by cases y : evB d with
    | true => rfl
    | false => rw [y] at q; cases q
  exact wp_ret (d := .bool (evB d)) (en1 := E (.dat (.bool (evB d)))) (eAnd_b (x := true) (y := evB d) rfl fun _ => rfl) (by rw [hq]; exact rfl)
/-- a log: its head h told by hb -/
theorem is_log_ok {h : D} {hb : Bool} (hh : M__is_beginning [h] = .ok (.bool hb)) (hl : r.length ≤ 900) (hr : ∀ x ∈ r, Bd x) : M_is_log [.tuple (h :: r)] = .ok (.bool (hb && r.all evB)) := by
  refine fn_wp rfl ?_
  let E0 : En := [.dat (.tuple (h :: r)), .un]
  show Wp (m_is_log E0) _
  have ix0 : e2 fIx (eVar 0) (eC (.int 0)) E0 = .ok (h, E0) := e2_of (d := .tuple (h :: r)) (e := iD 0) rfl rfl (ixT (ds := h :: r) (k := 0) (Nat.succ_pos _))
  have t := or_no (tmNot_b (x := true) (tr_of (b := true) (a := eIsi .tup (eVar 0)) (en := E0) rfl)) (or_no (b_of (e2_of (f := fEq) (a := eN fLen (aCons (eVar 0) aNil)) (b := eC (.int 0)) (d := iD (r.length + 1)) (e := iD 0) (en1_of (d := .tuple (h :: r)) rfl rfl) rfl (by rw [fEq_N, decide_eq_false (by omega)]))) (tmNot_b (tr_of (call_b (ds := [h]) (tone ix0) hh))))
  refine wp_out (en2 := E0) (d := .bool false) t (fun q => ⟨rfl, ?_⟩) (fun q => ?_)
  · have : hb = false := by cases hb with
      | true => cases q
      | false => rfl
    rw [this]
    exact rfl
  · have : hb = true := by cases hb with
      | true => rfl
      | false => cases q
    rw [this, Bool.true_and]
    refine wp_ret (d := .bool (r.all evB)) (en1 := E0) ?_ rfl
    refine all_ok (j := 1) (enc := fun x : D => x) (xs := r) (p := evB) (imS_at (d := .tuple r) ?_ (by rw [List.map_id']; rfl)) (fun x hx => call_b (ds := [x]) (tone rfl) (is_event_ok (hr x hx))) (by omega) (Nat.le_of_ble_eq_true rfl) rfl
    have : eSl (eVar 0) (oSome (eC (.int 1))) oNone E0 = .ok (.tuple ((h :: r).drop 1), E0) := by
      rw [eSl_ap, show eVar 0 E0 = .ok (.tuple (h :: r), E0) from rfl, bind_ok, oSome_ap, show eC (.int 1) E0 = .ok (iD 1, E0) from rfl, bind_ok, bind_ok, oNone_ap, bind_ok]
      dsimp only
      rw [cut_drop]
    exact this
theorem law_is_log_ok {h : D} {hb : Bool} (hh : M__is_beginning [h] = .ok (.bool hb)) (hl : r.length ≤ 900) (hr : ∀ x ∈ r, Bd x) (hz : (hb && r.all evB) = z) : M__law_is_log [.tuple (h :: r), .bool z] = .ok (.bool true) := by
  have he := is_log_ok hh hl hr
  rw [hz] at he
  refine fn_wp rfl ?_
  show Wp (m__law_is_log [.dat (.tuple (h :: r)), .dat (.bool z), .un, .un]) _
  let E : SV → En := fun v => [.dat (.tuple (h :: r)), .dat (.bool z), .dat (.bool z), v]
  refine wp_asgs (en1 := [.dat (.tuple (h :: r)), .dat (.bool z), .un, .un]) (d := .bool z) (call_b (ds := [.tuple (h :: r)]) (tone rfl) he) ?_
  refine wp_no (en1 := E .un) (or_no rfl (b_of (e2_of (d := .bool z) (e := .bool z) rfl rfl (fNe_bb _)))) ?_
  refine wp_out (en1 := E .un) (en2 := E .un) (x := !z) (d := .bool true) (tmNot_b (tr_of rfl)) (fun _ => ⟨rfl, rfl⟩) (fun q => ?_)
  refine wp_asgs (en1 := E .un) (d := .bool z) (callK1 rfl he) ?_
  have hq : z = true := by cases z with
    | true => rfl
    | false => cases q
  exact wp_ret (d := .bool z) (en1 := E (.dat (.bool z))) (eAnd_b (x := true) (y := z) rfl fun _ => rfl) (by rw [hq]; exact rfl)
end
end K42
end
section
set_option Elab.async false
set_option linter.all false
set_option maxRecDepth 100000
set_option maxHeartbeats 4000000
namespace K42
open PySem PySem.Spec PyProof.Rows L2 Mir
theorem by_hand_ok : M__law_by_hand [] = .ok (.bool true) := by kernel_rfl
theorem reasons_ok : M__law_reasons [] = .ok (.bool true) := by kernel_rfl
theorem refused_ok : M__law_refused [] = .ok (.bool true) := by kernel_rfl
theorem strange_ok : M__law_strange [] = .ok (.list [.bool true, .bool false, .int (-1), .str "1", .none, .tuple [.int 1], .list [.int 1], .tuple [], .str "", .int (-1000000000000000000000000000000)]) := by kernel_rfl
/-- the head of a log, by hand -/
def head4 : D := .tuple [.str "begin", .tuple [.tuple [.int 2, .int 2], .tuple [.tuple [.int 0], .tuple [.int 1]]], .tuple [.tuple [.int 0, .int 1]], .tuple [.int 0, .int 1, .int 1, .int 0]]
theorem head4_ok : M__is_beginning [head4] = .ok (.bool true) := by kernel_rfl
end K42
end
section
set_option Elab.async false
set_option linter.all false
set_option maxRecDepth 100000
set_option maxHeartbeats 4000000
namespace K42
open PySem PySem.Spec PyProof.Rows L2 Mir
section
variable {xs : List Int} {d e a b : D} {ds es r : List D} {w : Str} {en en1 : En} {i j k n m : Nat} {z : Bool} {v : Dv} {l : List Nat}
theorem tcons_at {m : Em} {a : Am} {en2 : En} {d : D} {ds : List D} (h1 : m en = .ok (d, en1)) (h2 : a en1 = .ok (ds, en2)) : aCons m a en = .ok (d :: ds, en2) := by rw [aCons_ap, h1, bind_ok, h2, bind_ok]
theorem tone_at {m : Em} {d : D} (h1 : m en = .ok (d, en1)) : aCons m aNil en = .ok ([d], en1) := tcons_at h1 tnil
theorem b_at {a : Em} {b : Bool} (h : a en = .ok (.bool b, en1)) : tmB a en = .ok (b, en1) := by rw [tmB_ap, h, bind_ok]
theorem el_at {l : Am} {ds : List D} (h : l en = .ok (ds, en1)) : eL l en = .ok (.list ds, en1) := by rw [eL_ap, h, bind_ok]
theorem callD_at {m : MO → List D → Rs (D × MO)} {i : Nat} {a : Am} {ds : List D} {v' : Dv} (he : en[i]? = some (.own (dr xs v))) (ha : a en = .ok (ds, en)) (hm : m (dr xs v) ds = .ok (d, dr xs v')) : eCallD m i a en = .ok (d, en.set i (.own (dr xs v'))) := by
  have p : pinAt en i = some (dr xs v) := by rw [pinAt_ap, he]; rfl
  rw [eCallD_ap, p]
  dsimp only
  rw [ha, bind_ok]
  dsimp only
  rw [p]
  dsimp only
  rw [hm]
  rfl
theorem pow50 {en : En} : e2 fPow (eC (.int 10)) (eC (.int 50)) en = .ok (iD (10 ^ 50), en) := e2_of (d := .int 10) (e := .int 50) rfl rfl (by kernel_rfl)
abbrev lE (xs : List Int) (v : Dv) (l : List Nat) (h : Nat) (v3 : SV) : En := [.own (dr xs v), .own (.lst (l.map iD)), .dat (iD h), v3]
theorem law_lot_ok (h : Ok v) : ∃ l v', M__law_lot (dr xs v) [] = .ok (tupN l, dr xs v') ∧ Ok v' ∧ l.Pairwise (· < ·) ∧ l.length ≤ 6 := by
  obtain ⟨d, mo', e, l, v', rfl, rfl, q1, q2, q3⟩ := fnD_ex (m := m__law_lot) (n := 4) (k := 1) (mo := dr xs v) (ds := []) (P := fun d mo' => ∃ l v', d = tupN l ∧ mo' = dr xs v' ∧ Ok v' ∧ l.Pairwise (· < ·) ∧ l.length ≤ 6) rfl (by
    let E0 : Dv → SV → En := fun v v2 => [.own (dr xs v), .own (.lst ([].map iD)), v2, .un]
    show Wp (m__law_lot [.own (dr xs v), .un, .un, .un]) _
    refine wp_seq (en1 := E0 v .un) (asgO_at (en1 := [.own (dr xs v), .un, .un, .un]) (lst_of tnil (Nat.le_of_ble_eq_true rfl))) ?_
    obtain ⟨k, v1, e1', h, _⟩ := drw h (m := 3) (i := 0) (en := E0 v .un) (a := eC (.int 3)) rfl rfl (by decide)
    refine wp_seq (en1 := E0 v1 (.dat (iD k))) (asg_at e1') ?_
    obtain ⟨y, v2, e2', h, _⟩ := drw h (m := 9) (i := 0) (en := E0 v1 (.dat (iD k))) (a := eC (.int 9)) rfl rfl (by decide)
    have key : ∀ k, Wp (mSeq (mFor (imRng rng1 (aCons (eCallD M__law_draw 0 (aCons (eC (.int 7)) aNil)) aNil)) (gmName 3)
  (mSeq (mApp 1 (eVar 2))
  (mAsg (gmName 2) (e2 fAdd (e2 fAdd (eVar 2) (eC (.int 1))) (e2 fMul (eCallD M__law_draw 0 (aCons (eC (.int 4)) aNil)) (eCallD M__law_draw 0 (aCons (eC (.int 30)) aNil)))))))
  (mRet (eN fTuple (aCons (eVar 1) aNil))) (E0 v2 (.dat (iD k)))) (fun fl en => ∃ d mo', fl = .rt d ∧ pinAt en 0 = some mo' ∧ ∃ l v', d = tupN l ∧ mo' = dr xs v' ∧ Ok v' ∧ l.Pairwise (· < ·) ∧ l.length ≤ 6) := by
      intro k
      obtain ⟨t, v3, e3', h, ht⟩ := drw h (m := 7) (i := 0) (en := E0 v2 (.dat (iD k))) (a := eC (.int 7)) rfl rfl (by decide)
      refine wp_bind (wp_rng (n := t) (W := Dv × List Nat × Nat × SV) (fun i s => Ok s.1 ∧ s.2.1.Pairwise (· < ·) ∧ s.2.1.length = i ∧ ∀ x ∈ s.2.1, x < s.2.2.1) (fun i s => lE xs s.1 s.2.1 s.2.2.1 s.2.2.2) (v3, [], k, .un) ⟨h, List.Pairwise.nil, rfl, fun _ h => by cases h⟩ (tone_at e3') (by omega) (fun i s hi hI => ?_) (fun s hI => ?_))
      · obtain ⟨v, l, k, u⟩ := s
        obtain ⟨h, hp, hl, hlt⟩ := hI
        have h : Ok v := h
        have hl : l.length = i := hl
        have hlt : ∀ x ∈ l, x < k := hlt
        refine wp_seq (en1 := lE xs v (l ++ [k]) k (.dat (iD i))) ?_ ?_
        · refine (app_at (i := 1) (m := eVar 2) (en := lE xs v l k (.dat (iD i))) (en1 := lE xs v l k (.dat (iD i))) (ds0 := l.map iD) (ds := l.map iD) (d := iD k) rfl rfl rfl (by rw [List.length_map]; omega)).trans ?_
          show Rs.ok (Fl.nx, ([_, SV.own (.lst (l.map iD ++ [iD k])), _, _] : En)) = Rs.ok (Fl.nx, ([_, SV.own (.lst ((l ++ [k]).map iD)), _, _] : En))
          rw [List.map_append]
          rfl
        · obtain ⟨p, v4, e4, h, hp4⟩ := drw h (m := 4) (i := 0) (en := lE xs v (l ++ [k]) k (.dat (iD i))) (a := eC (.int 4)) rfl rfl (by decide)
          obtain ⟨q, v5, e5, h, hq5⟩ := drw h (m := 30) (i := 0) (en := lE xs v4 (l ++ [k]) k (.dat (iD i))) (a := eC (.int 30)) rfl rfl (by decide)
          refine wp_lap (en1 := lE xs v5 (l ++ [k]) (k + 1 + p * q) (.dat (iD i))) (asg_at (en1 := lE xs v5 (l ++ [k]) k (.dat (iD i))) (e2_at (d := iD (k + 1)) (e := iD (p * q)) (e2_of (d := iD k) (e := iD 1) rfl rfl (fAdd_N _ _)) (e2_at (d := iD p) (e := iD q) e4 e5 (fMul_N (by omega) (by omega))) (fAdd_N _ _))) ⟨(v5, l ++ [k], k + 1 + p * q, .dat (iD i)), rfl, h, ?_, ?_, ?_⟩
          · exact List.pairwise_append.mpr ⟨hp, List.pairwise_singleton _ _, fun x hx y hy => by rw [List.mem_singleton.mp hy]; exact hlt x hx⟩
          · show (l ++ [k]).length = i + 1
            rw [List.length_append, List.length_singleton, hl]
          · intro x hx
            show x < k + 1 + p * q
            rcases List.mem_append.mp hx with y | y
            · have := hlt x y; omega
            · rw [List.mem_singleton.mp y]; omega
      · obtain ⟨v, l, k, u⟩ := s
        obtain ⟨h, hp, hl, _⟩ := hI
        have hl : l.length = t := hl
        exact wp_ret (d := tupN l) (en1 := [.own (dr xs v), .dat (.list (l.map iD)), .dat (iD k), u]) (eN_at (ds := [.list (l.map iD)]) (tone_at rfl) rfl) ⟨_, _, rfl, rfl, l, v, rfl, rfl, h, hp, by omega⟩
    refine wp_ifs (x := decide (y = 4)) (en1 := E0 v2 (.dat (iD k))) (b_at (e2_at e2' rfl (fEq_N y 4))) (fun _ => ?_) (fun _ => wp_next (key k))
    exact wp_asg (d := iD (k + 10 ^ 50)) (en1 := E0 v2 (.dat (iD k))) (e2_of (d := iD k) (e := iD (10 ^ 50)) rfl pow50 (fAdd_N _ _)) (key (k + 10 ^ 50)))
  exact ⟨l, v', e, q1, q2, q3⟩
end
end K42
end
section
set_option Elab.async false
set_option linter.all false
set_option maxRecDepth 100000
set_option maxHeartbeats 4000000
namespace K42
open PySem PySem.Spec PyProof.Rows L2 Mir
section
variable {xs : List Int} {d e a b : D} {ds es r : List D} {w : Str} {en en1 : En} {i j k n m : Nat} {z : Bool} {v : Dv} {l : List Nat}
inductive Ge : D → Prop where
  | lot (w : Str) (l : List Nat) (hw : w = "fear" ∨ w = "calm") (asc : l.Pairwise (· < ·)) (len : l.length ≤ 6) : Ge (.tuple [.str w, tupN l])
  | ans (l : List Nat) (b : Nat) (pos : 0 < l.length) (len : l.length ≤ 7) (hb : b ≤ 1) : Ge (.tuple [.str "answer", tupN l, iD b])
  | two (w : Str) (a b : Nat) (hw : w = "wire" ∨ w = "unwire" ∨ w = "leave") : Ge (.tuple [.str w, iD a, iD b])
  | ent : Ge (.tuple [.str "enter"])
theorem numB_iD (k : Nat) : numB (iD k) = true := decide_eq_true (Int.natCast_nonneg k)
theorem all_iD (l : List Nat) : (l.map iD).all numB = true := by
  rw [List.all_map, List.all_eq_true]
  exact fun x _ => numB_iD x
theorem getD_iD (hk : k < l.length) : (l.map iD).getD k .none = iD l[k] := by
  rw [List.getD_eq_getElem?_getD, List.getElem?_map, List.getElem?_eq_getElem hk]
  rfl
theorem lotB_asc (h : l.Pairwise (· < ·)) : lotB (tupN l) = true := by
  show ((l.map iD).all numB && riseB (l.map iD)) = true
  rw [all_iD, Bool.true_and]
  unfold riseB
  rw [List.all_eq_true]
  intro k hk
  rw [List.mem_range, List.length_map] at hk
  unfold lessB
  rw [getD_iD (by omega), getD_iD (by omega)]
  have := List.pairwise_iff_getElem.mp h k (k + 1) (by omega) (by omega) (by omega)
  exact decide_eq_true (show ((l[k] : Nat) : Int) < ((l[k + 1] : Nat) : Int) by omega)
theorem Ge.ev (h : Ge d) : evB d = true := by
  cases h with
  | lot w l hw asc len =>
    show restB w [tupN l] = true
    rw [rest_fear hw]
    exact lotB_asc asc
  | ans l b pos len hb =>
    show restB "answer" [tupN l, iD b] = true
    rw [rest_ans]
    have e1 : numsB (tupN l) = true := all_iD l
    have e2 : decide (0 < lenB (tupN l)) = true := decide_eq_true (by show 0 < (l.map iD).length; rw [List.length_map]; exact pos)
    have e3 : bitB (iD b) = true := by
      show (decide (0 ≤ (b : Int)) && decide ((b : Int) ≤ 1)) = true
      rw [decide_eq_true (by omega), decide_eq_true (by omega)]
      rfl
    show (true && (numsB (tupN l) && (decide (0 < lenB (tupN l)) && bitB (iD b)))) = true
    rw [e1, e2, e3]
    rfl
  | two w a b hw =>
    show restB w [iD a, iD b] = true
    rw [rest_wire hw]
    show (true && (numB (iD a) && (numB (iD b) && true))) = true
    rw [numB_iD, numB_iD]
    rfl
  | ent =>
    show restB "enter" [] = true
    rw [rest_enter]
    rfl
theorem bt_tupN (h : l.length ≤ 1000) : Bt (tupN l) := fun ds e => by
  cases e
  rw [List.length_map]
  exact h
theorem bt_iD (k : Nat) : Bt (iD k) := fun ds e => by cases e
theorem bt_str (w : Str) : Bt (.str w) := fun ds e => by cases e
/-- a short row whose first is no odd text is within bounds -/
theorem bd_of (hl : ds.length ≤ 1000) (hi : ∀ x ∈ ds, Bt x) (hk : ∀ w r, ds = .str w :: r → PyData.strOk w = true) : Bd (.tuple ds) :=
  ⟨fun es e => by cases e; exact hl, fun es e => by cases e; exact hi, fun w r e => hk w r (by cases e; rfl)⟩
theorem ok_word (h : w = "fear" ∨ w = "calm" ∨ w = "answer" ∨ w = "wire" ∨ w = "unwire" ∨ w = "leave" ∨ w = "enter") : PyData.strOk w = true := by
  rcases h with rfl | rfl | rfl | rfl | rfl | rfl | rfl <;> kernel_rfl
theorem Ge.bd (h : Ge d) : Bd d := by
  cases h with
  | lot w l hw asc len =>
    refine bd_of (Nat.le_of_ble_eq_true rfl) (fun x hx => ?_) fun w' r e => ?_
    · rcases List.mem_cons.mp hx with rfl | hx
      · exact bt_str w
      · rw [List.mem_singleton.mp hx]; exact bt_tupN (by omega)
    · cases e
      exact ok_word (by rcases hw with h | h <;> simp [h])
  | ans l b pos len hb =>
    refine bd_of (Nat.le_of_ble_eq_true rfl) (fun x hx => ?_) fun w' r e => ?_
    · rcases List.mem_cons.mp hx with rfl | hx
      · exact bt_str _
      · rcases List.mem_cons.mp hx with rfl | hx
        · exact bt_tupN (by omega)
        · rw [List.mem_singleton.mp hx]; exact bt_iD b
    · cases e
      exact ok_word (by simp)
  | two w a b hw =>
    refine bd_of (Nat.le_of_ble_eq_true rfl) (fun x hx => ?_) fun w' r e => ?_
    · rcases List.mem_cons.mp hx with rfl | hx
      · exact bt_str w
      · rcases List.mem_cons.mp hx with rfl | hx
        · exact bt_iD a
        · rw [List.mem_singleton.mp hx]; exact bt_iD b
    · cases e
      exact ok_word (by rcases hw with h | h | h <;> simp [h])
  | ent =>
    refine bd_of (Nat.le_of_ble_eq_true rfl) (fun x hx => ?_) fun w' r e => ?_
    · rw [List.mem_singleton.mp hx]; exact bt_str _
    · cases e
      exact ok_word (by simp)
end
end K42
end
section
set_option Elab.async false
set_option linter.all false
set_option maxRecDepth 100000
set_option maxHeartbeats 4000000
namespace K42
open PySem PySem.Spec PyProof.Rows L2 Mir
section
variable {xs : List Int} {d e a b : D} {ds es r : List D} {w : Str} {en en1 : En} {i j k n m : Nat} {z : Bool} {v : Dv} {l : List Nat}
theorem pow40 {en : En} : e2 fPow (eC (.int 10)) (eC (.int 40)) en = .ok (iD (10 ^ 40), en) := e2_of (d := .int 10) (e := .int 40) rfl rfl (by kernel_rfl)
theorem word2 {E : En} (hE : E[1]? = some (.dat (iD k))) (hk : k < 2) : ∃ w : Str, (w = "fear" ∨ w = "calm") ∧ e2 fIx (eL (lLst (aCons (eC (.str "fear")) (aCons (eC (.str "calm")) aNil)))) (eVar 1) E = .ok (.str w, E) := by
  match k, hk, hE with
  | 0, _, hE => exact ⟨"fear", .inl rfl, e2_of (d := .list [.str "fear", .str "calm"]) (e := iD 0) rfl (by rw [eVar_ap, hE]) rfl⟩
  | 1, _, hE => exact ⟨"calm", .inr rfl, e2_of (d := .list [.str "fear", .str "calm"]) (e := iD 1) rfl (by rw [eVar_ap, hE]) rfl⟩
theorem word3 {E : En} (hE : E[1]? = some (.dat (iD k))) (hk : 3 ≤ k) (hk2 : k < 6) : ∃ w : Str, (w = "wire" ∨ w = "unwire" ∨ w = "leave") ∧ e2 fIx (eL (lLst (aCons (eC (.str "wire")) (aCons (eC (.str "unwire")) (aCons (eC (.str "leave")) aNil))))) (e2 fSub (eVar 1) (eC (.int 3))) E = .ok (.str w, E) := by
  have hs : e2 fSub (eVar 1) (eC (.int 3)) E = .ok (iD (k - 3), E) := e2_of (d := iD k) (e := iD 3) (by rw [eVar_ap, hE]) rfl (fSub_N hk)
  obtain ⟨j, rfl⟩ : ∃ j, k = j + 3 := ⟨k - 3, by omega⟩
  rw [Nat.add_sub_cancel] at hs
  match j, hk2, hs with
  | 0, _, hs => exact ⟨"wire", .inl rfl, e2_of (d := .list [.str "wire", .str "unwire", .str "leave"]) (e := iD 0) rfl hs rfl⟩
  | 1, _, hs => exact ⟨"unwire", .inr (.inl rfl), e2_of (d := .list [.str "wire", .str "unwire", .str "leave"]) (e := iD 1) rfl hs rfl⟩
  | 2, _, hs => exact ⟨"leave", .inr (.inr rfl), e2_of (d := .list [.str "wire", .str "unwire", .str "leave"]) (e := iD 2) rfl hs rfl⟩
abbrev gE (xs : List Int) (v : Dv) (u1 u2 u3 u4 : SV) : En := [.own (dr xs v), u1, u2, u3, u4, .un]
theorem law_good_ok (h : Ok v) : ∃ d v', M__law_good (dr xs v) [] = .ok (d, dr xs v') ∧ Ok v' ∧ Ge d := by
  obtain ⟨d, mo', e, v', rfl, q1, q2⟩ := fnD_ex (m := m__law_good) (n := 6) (k := 1) (mo := dr xs v) (ds := []) (P := fun d mo' => ∃ v', mo' = dr xs v' ∧ Ok v' ∧ Ge d) rfl (by
    show Wp (m__law_good (gE xs v .un .un .un .un)) _
    obtain ⟨k, v1, e1', h, hk⟩ := drw h (m := 7) (i := 0) (en := gE xs v .un .un .un .un) (a := eC (.int 7)) rfl rfl (by decide)
    let K : SV := .dat (iD k)
    refine wp_seq (en1 := gE xs v1 K .un .un .un) (asg_at e1') ?_
    refine wp_bind (wp_if (x := decide (k < 2)) (en1 := gE xs v1 K .un .un .un) (b_of (e2_of (d := iD k) (e := iD 2) rfl rfl (fLt_N k 2))) (fun q => ?_) (fun q => ?_))
    · have q := of_decide_eq_true q
      obtain ⟨l, v2, e2', h, hp, hl⟩ := law_lot_ok (xs := xs) h
      obtain ⟨w, hw, ew⟩ := word2 (E := gE xs v1 K .un .un .un) rfl q
      refine wp_ret (d := .tuple [.str w, tupN l]) (en1 := gE xs v2 K .un .un .un) (by rw [eTup_ap, tcons_at ew (tone_at (callD_at (ds := []) rfl tnil e2'))]; rfl) ⟨_, _, rfl, rfl, v2, rfl, h, .lot w l hw hp hl⟩
    refine wp_next ?_
    refine wp_bind (wp_if (x := decide (k = 2)) (en1 := gE xs v1 K .un .un .un) (b_of (e2_of (d := iD k) (e := iD 2) rfl rfl (fEq_N k 2))) (fun q2 => ?_) (fun q2 => ?_))
    · obtain ⟨s, v2, e2', h, hs⟩ := drw h (m := 7) (i := 0) (en := gE xs v1 K .un .un .un) (a := eC (.int 7)) rfl rfl (by decide)
      let S : SV := .dat (iD (1 + s))
      refine wp_seq (en1 := gE xs v2 K .un .un S) (asg_at (en1 := gE xs v2 K .un .un .un) (e2_at (d := iD 1) (e := iD s) rfl e2' (fAdd_N _ _))) ?_
      obtain ⟨l, v3, e3, hl, _, h⟩ := lc_run (W := Dv) (j := 5) (im := imRng rng1 (aCons (eVar 4) aNil)) (m := eCallD M__law_draw 0 (aCons (eC (.int 12)) aNil)) (enc := iD) (dec := iD) (xs := List.range (1 + s)) (en := gE xs v2 K .un .un S) (fun v => gE xs v K .un .un S) (fun _ v => Ok v) (fun _ => True) v2 h (imR_at (tone rfl) (by omega)) (fun _ => rfl) (fun i v hi h => by
        obtain ⟨y, v', e, h', _⟩ := drw h (m := 12) (i := 0) (en := (gE xs v K .un .un S).set 5 (.dat (iD (List.range (1 + s))[i]))) (a := eC (.int 12)) rfl rfl (by decide)
        exact ⟨y, v', e, trivial, h'⟩) (by rw [List.length_range]; omega) rfl rfl
      rw [List.length_range] at hl
      have h : Ok v3 := h
      obtain ⟨b, v4, e4, h, hb⟩ := drw h (m := 2) (i := 0) (en := gE xs v3 K .un .un S) (a := eC (.int 2)) rfl rfl (by decide)
      have em : eN fTuple (aCons (eL (lLc (imRng rng1 (aCons (eVar 4) aNil)) [5] (gmName 5) tmYes (eCallD M__law_draw 0 (aCons (eC (.int 12)) aNil)))) aNil) (gE xs v2 K .un .un S) = .ok (tupN l, gE xs v3 K .un .un S) := eN_at (ds := [.list (l.map iD)]) (tone_at (el_at e3)) rfl
      exact wp_ret (d := .tuple [.str "answer", tupN l, iD b]) (en1 := gE xs v4 K .un .un S) (by rw [eTup_ap, tcons_at (m := eC (.str "answer")) (en := gE xs v2 K .un .un S) rfl (tcons_at em (tone_at e4))]; rfl) ⟨_, _, rfl, rfl, v4, rfl, h, .ans l b (by omega) (by omega) (by omega)⟩
    refine wp_next ?_
    refine wp_bind (wp_if (x := decide (k = 6)) (en1 := gE xs v1 K .un .un .un) (b_of (e2_of (d := iD k) (e := iD 6) rfl rfl (fEq_N k 6))) (fun q3 => ?_) (fun q3 => ?_))
    · exact wp_ret (d := .tuple [.str "enter"]) (en1 := gE xs v1 K .un .un .un) rfl ⟨_, _, rfl, rfl, v1, rfl, h, .ent⟩
    refine wp_next ?_
    have q := of_decide_eq_false q
    have q2 := of_decide_eq_false q2
    have q3 := of_decide_eq_false q3
    obtain ⟨a, v2, e2', h, _⟩ := drw h (m := 7) (i := 0) (en := gE xs v1 K .un .un .un) (a := eC (.int 7)) rfl rfl (by decide)
    refine wp_seq (en1 := gE xs v2 K (.dat (iD a)) .un .un) (asg_at e2') ?_
    obtain ⟨b, v3, e3', h, _⟩ := drw h (m := 7) (i := 0) (en := gE xs v2 K (.dat (iD a)) .un .un) (a := eC (.int 7)) rfl rfl (by decide)
    refine wp_seq (en1 := gE xs v3 K (.dat (iD a)) (.dat (iD b)) .un) (asg_at e3') ?_
    obtain ⟨y, v4, e4', h, _⟩ := drw h (m := 9) (i := 0) (en := gE xs v3 K (.dat (iD a)) (.dat (iD b)) .un) (a := eC (.int 9)) rfl rfl (by decide)
    have key : ∀ b, Wp (mRet (eTup (aCons (e2 fIx (eL (lLst (aCons (eC (.str "wire")) (aCons (eC (.str "unwire")) (aCons (eC (.str "leave")) aNil))))) (e2 fSub (eVar 1) (eC (.int 3)))) (aCons (eVar 2) (aCons (eVar 3) aNil)))) (gE xs v4 K (.dat (iD a)) (.dat (iD b)) .un)) (fun fl en => ∃ d mo', fl = .rt d ∧ pinAt en 0 = some mo' ∧ ∃ v', mo' = dr xs v' ∧ Ok v' ∧ Ge d) := by
      intro b
      obtain ⟨w, hw, ew⟩ := word3 (E := gE xs v4 K (.dat (iD a)) (.dat (iD b)) .un) rfl (by omega) (by omega)
      exact wp_ret (d := .tuple [.str w, iD a, iD b]) (en1 := gE xs v4 K (.dat (iD a)) (.dat (iD b)) .un) (tp_of (tcons ew (tcons rfl (tone rfl)))) ⟨_, _, rfl, rfl, v4, rfl, h, .two w a b hw⟩
    refine wp_ifs (x := decide (y = 2)) (en1 := gE xs v4 K (.dat (iD a)) (.dat (iD b)) .un) (b_at (e2_at e4' rfl (fEq_N y 2))) (fun _ => ?_) (fun _ => wp_next (key b))
    exact wp_asg (d := iD (b + 10 ^ 40)) (en1 := gE xs v4 K (.dat (iD a)) (.dat (iD b)) .un) (e2_of (d := iD b) (e := iD (10 ^ 40)) rfl pow40 (fAdd_N _ _)) (key (b + 10 ^ 40)))
  exact ⟨d, v', e, q1, q2⟩
end
end K42
end
section
set_option Elab.async false
set_option linter.all false
set_option maxRecDepth 100000
set_option maxHeartbeats 4000000
namespace K42
open PySem PySem.Spec PyProof.Rows L2 Mir
section
variable {xs : List Int} {d e a b x : D} {ds es r : List D} {w : Str} {en en1 : En} {i j k n m : Nat} {z : Bool} {v : Dv} {l : List Nat}
structure No (d : D) : Prop where
  bd : Bd d
  ev : evB d = false
theorem no_other (h : ∀ ds, d ≠ .tuple ds) : No d := ⟨⟨fun ds e => absurd e (h ds), fun ds e => absurd e (h ds), fun w r e => absurd e (h _)⟩, by
  cases d with
  | tuple ds => exact absurd rfl (h ds)
  | _ => rfl⟩
theorem no_list (ds : List D) : No (.list ds) := no_other fun _ e => by cases e
theorem no_str (w : Str) : No (.str w) := no_other fun _ e => by cases e
theorem no_nil : No (.tuple []) := ⟨bd_of (Nat.zero_le _) (fun x h => by cases h) (fun w r e => by cases e), rfl⟩
/-- its first is no text -/
theorem no_first (hx : ∀ w, x ≠ .str w) (hbx : Bt x) (hl : r.length ≤ 900) (hr : ∀ y ∈ r, Bt y) : No (.tuple (x :: r)) := by
  refine ⟨bd_of (by rw [List.length_cons]; omega) (fun y hy => ?_) (fun w r e => ?_), ?_⟩
  · rcases List.mem_cons.mp hy with q | q
    · rw [q]; exact hbx
    · exact hr y q
  · cases e
    exact absurd rfl (hx w)
  · cases x with
    | str w => exact absurd rfl (hx w)
    | _ => rfl
/-- its first is a text -/
theorem no_rest (hw : PyData.strOk w = true) (hl : r.length ≤ 900) (hr : ∀ y ∈ r, Bt y) (h : restB w r = false) : No (.tuple (.str w :: r)) := by
  refine ⟨bd_of (by rw [List.length_cons]; omega) (fun y hy => ?_) (fun w' r e => ?_), h⟩
  · rcases List.mem_cons.mp hy with q | q
    · rw [q]; exact bt_str w
    · exact hr y q
  · cases e
    exact hw
/-- the words of events -/
def Wd (w : Str) (n : Nat) : Prop := (w = "fear" ∨ w = "calm") ∧ n = 1 ∨ w = "answer" ∧ n = 2 ∨ (w = "wire" ∨ w = "unwire" ∨ w = "leave") ∧ n = 2 ∨ w = "enter" ∧ n = 0
theorem Wd.ok (h : Wd w n) : PyData.strOk w = true := by
  rcases h with ⟨h, _⟩ | ⟨h, _⟩ | ⟨h, _⟩ | ⟨h, _⟩
  · exact ok_word (by rcases h with h | h <;> simp [h])
  · exact ok_word (by simp [h])
  · exact ok_word (by rcases h with h | h | h <;> simp [h])
  · exact ok_word (by simp [h])
theorem Wd.len (h : Wd w n) (hl : r.length ≠ n) : restB w r = false := by
  rcases h with ⟨h, rfl⟩ | ⟨rfl, rfl⟩ | ⟨h, rfl⟩ | ⟨rfl, rfl⟩
  · rw [rest_fear h, decide_eq_false hl]; rfl
  · rw [rest_ans, decide_eq_false hl]; rfl
  · rw [rest_wire h, decide_eq_false hl]; rfl
  · rw [rest_enter, decide_eq_false hl]
theorem Ge.wd (h : Ge d) : ∃ w r, d = .tuple (.str w :: r) ∧ Wd w r.length ∧ r.length ≤ 2 ∧ ∀ y ∈ r, Bt y := by
  cases h with
  | lot w l hw asc len => exact ⟨w, [tupN l], rfl, .inl ⟨hw, rfl⟩, by show 1 ≤ 2; omega, fun y hy => by rw [List.mem_singleton.mp hy]; exact bt_tupN (by omega)⟩
  | ans l b pos len hb => exact ⟨"answer", [tupN l, iD b], rfl, .inr (.inl ⟨rfl, rfl⟩), by show 2 ≤ 2; omega, fun y hy => by
      rcases List.mem_cons.mp hy with q | q
      · rw [q]; exact bt_tupN (by omega)
      · rw [List.mem_singleton.mp q]; exact bt_iD b⟩
  | two w a b hw => exact ⟨w, [iD a, iD b], rfl, .inr (.inr (.inl ⟨hw, rfl⟩)), by show 2 ≤ 2; omega, fun y hy => by
      rcases List.mem_cons.mp hy with q | q
      · rw [q]; exact bt_iD a
      · rw [List.mem_singleton.mp q]; exact bt_iD b⟩
  | ent => exact ⟨"enter", [], rfl, .inr (.inr (.inr ⟨rfl, rfl⟩)), by decide, fun y hy => by cases hy⟩
/-- the words made of these that are no events' words -/
theorem odd_words (h : Wd w n) : (PyData.strOk (Txt.upper w) = true ∧ lkS tbL_COUNTS (Txt.upper w) = none) ∧ (PyData.strOk (w ++ " ") = true ∧ lkS tbL_COUNTS (w ++ " ") = none) ∧ w.length ≤ 10 := by
  rcases h with ⟨h, _⟩ | ⟨h, _⟩ | ⟨h, _⟩ | ⟨h, _⟩
  · rcases h with rfl | rfl <;> exact ⟨⟨by kernel_rfl, by kernel_rfl⟩, ⟨by kernel_rfl, by kernel_rfl⟩, by decide +kernel⟩
  · subst h
    exact ⟨⟨by kernel_rfl, by kernel_rfl⟩, ⟨by kernel_rfl, by kernel_rfl⟩, by decide +kernel⟩
  · rcases h with rfl | rfl | rfl <;> exact ⟨⟨by kernel_rfl, by kernel_rfl⟩, ⟨by kernel_rfl, by kernel_rfl⟩, by decide +kernel⟩
  · subst h
    exact ⟨⟨by kernel_rfl, by kernel_rfl⟩, ⟨by kernel_rfl, by kernel_rfl⟩, by decide +kernel⟩
theorem begin_none : lkS tbL_COUNTS "begin" = none ∧ lkS tbL_COUNTS "" = none ∧ PyData.strOk "begin" = true ∧ PyData.strOk "" = true := ⟨by kernel_rfl, by kernel_rfl, by kernel_rfl, by kernel_rfl⟩
end
end K42
end
section
set_option Elab.async false
set_option linter.all false
set_option maxRecDepth 100000
set_option maxHeartbeats 4000000
namespace K42
open PySem PySem.Spec PyProof.Rows L2 Mir
section
variable {xs : List Int} {d e a b x : D} {ds es r : List D} {w : Str} {en en1 : En} {i j k n m : Nat} {z : Bool} {v : Dv} {l : List Nat}
theorem cut_init (ds : List D) : Mir.cutD ds none (some (-1)) = ds.take (ds.length - 1) := by
  unfold Mir.cutD
  have h1 : HT.sIx ds.length 0 none = 0 := rfl
  have h2 : HT.sIx ds.length ds.length (some (-1)) = ds.length - 1 := by
    unfold HT.sIx
    simp
    omega
  rw [h1, h2, List.drop_zero, Nat.sub_zero]
theorem eVar_lst {i : Nat} (he : en[i]? = some (.own (.lst ds))) : eVar i en = .ok (.list ds, en.set i (.dat (.list ds))) := by rw [eVar_ap, he]
/-- an own list and more -/
theorem addL_at {i : Nat} {X : Em} (he : en[i]? = some (.own (.lst ds))) (hX : X (en.set i (.dat (.list ds))) = .ok (.list es, en1)) (hl : ds.length + es.length ≤ 1000) : mAsgO i (l2 fAddL (eVar i) X) en = .ok (.nx, en1.set i (.own (.lst (ds ++ es)))) := by
  refine asgO_at ?_
  show ((eVar i en).bind fun p => (X p.2).bind fun q => (fAddL p.1 q.1).calm.bind fun z => Rs.ok (z, q.2)) = _
  rw [eVar_lst he, bind_ok, hX, bind_ok]
  have : fAddL (.list ds) (.list es) = .ok (ds ++ es) := by
    show (if ds.length + es.length ≤ big then Rs.ok (ds ++ es) else .stk) = _
    exact if_pos (Nat.le_trans hl (Nat.le_of_ble_eq_true rfl))
  dsimp only
  rw [this]
  rfl
def bnRest : Sm :=
  (mSeq (mIf (tmOr (tmB (e2 fEq (eVar 2) (eC (.str "fear")))) (tmB (e2 fEq (eVar 2) (eC (.str "calm")))))
  (mSeq (mAsg (gmName 6) (e2 fIx (eVar 3) (eC (.int 0))))
  (mSeq (mAsg (gmName 7) (eCallD M__law_draw 0 (aCons (e2 fAdd (eN fLen (aCons (eVar 6) aNil)) (eC (.int 1))) aNil)))
  (mSeq (mAsgO 4 (l2 fAddL (eVar 4) (eL (lLc (imSeq (eVar 5)) [9] (gmName 9) tmYes (eTup (aCons (eVar 2) (aCons (e2 fAdd (e2 fAdd (eSl (eVar 6) oNone (oSome (eVar 7))) (eTup (aCons (eVar 9) aNil))) (eSl (eVar 6) (oSome (eVar 7)) oNone)) aNil)))))))
  (mSeq (mAsgO 4 (l2 fAddL (eVar 4) (eL (lLst (aCons (eTup (aCons (eVar 2) (aCons (eL (lN fList (aCons (eVar 6) aNil))) aNil))) (aCons (eTup (aCons (eVar 2) (aCons (eC .none) aNil))) (aCons (eTup (aCons (eVar 2) (aCons (eC (.bool true)) aNil))) (aCons (eTup (aCons (eVar 2) (aCons (eC (.int 0)) aNil))) (aCons (eTup (aCons (eVar 2) (aCons (eC (.str "0")) aNil))) aNil)))))))))
  (mSeq (mIf (tmB (e2 fGt (eN fLen (aCons (eVar 6) aNil)) (eC (.int 0))))
  (mAsgO 4 (l2 fAddL (eVar 4) (eL (lLst (aCons (eTup (aCons (eVar 2) (aCons (e2 fAdd (eVar 6) (eSl (eVar 6) (oSome (e1 fNeg (eC (.int 1)))) oNone)) aNil))) (aCons (eTup (aCons (eVar 2) (aCons (e2 fAdd (eSl (eVar 6) oNone (oSome (eC (.int 1)))) (eVar 6)) aNil))) (aCons (eTup (aCons (eVar 2) (aCons (e2 fAdd (eVar 6) (eTup (aCons (e2 fIx (eVar 6) (eC (.int 0))) aNil))) aNil))) aNil)))))))
  mNext)
  (mIf (tmB (e2 fGt (eN fLen (aCons (eVar 6) aNil)) (eC (.int 1))))
  (mApp 4 (eTup (aCons (eVar 2) (aCons (e2 fAdd (eSl (eVar 6) (oSome (eC (.int 1))) oNone) (eSl (eVar 6) oNone (oSome (eC (.int 1))))) aNil))))
  mNext))))))
  mNext)
  (mSeq (mIf (tmB (e2 fEq (eVar 2) (eC (.str "answer"))))
  (mSeq (mAsg (gmName 8) (e2 fIx (eVar 3) (eC (.int 0))))
  (mSeq (mAsg (gmName 7) (eCallD M__law_draw 0 (aCons (eN fLen (aCons (eVar 8) aNil)) aNil)))
  (mSeq (mAsgO 4 (l2 fAddL (eVar 4) (eL (lLc (imSeq (eVar 5)) [9] (gmName 9) tmYes (eTup (aCons (eVar 2) (aCons (e2 fAdd (e2 fAdd (eSl (eVar 8) oNone (oSome (eVar 7))) (eTup (aCons (eVar 9) aNil))) (eSl (eVar 8) (oSome (e2 fAdd (eVar 7) (eC (.int 1)))) oNone)) (aCons (e2 fIx (eVar 3) (eC (.int 1))) aNil))))))))
  (mSeq (mAsgO 4 (l2 fAddL (eVar 4) (eL (lLc (imSeq (e2 fAdd (eVar 5) (eL (lLst (aCons (eC (.int 2)) (aCons (e2 fPow (eC (.int 10)) (eC (.int 40))) aNil)))))) [9] (gmName 9) tmYes (eTup (aCons (eVar 2) (aCons (eVar 8) (aCons (eVar 9) aNil))))))))
  (mSeq (mAsgO 4 (l2 fAddL (eVar 4) (eL (lLst (aCons (eTup (aCons (eVar 2) (aCons (eTup aNil) (aCons (e2 fIx (eVar 3) (eC (.int 1))) aNil)))) (aCons (eTup (aCons (eVar 2) (aCons (eL (lN fList (aCons (eVar 8) aNil))) (aCons (e2 fIx (eVar 3) (eC (.int 1))) aNil)))) (aCons (eTup (aCons (eVar 2) (aCons (e2 fIx (eVar 3) (eC (.int 1))) (aCons (eVar 8) aNil)))) aNil)))))))
  (mAsgO 4 (l2 fAddL (eVar 4) (eL (lLst (aCons (eTup (aCons (eVar 2) (aCons (e2 fIx (eVar 8) (eC (.int 0))) (aCons (e2 fIx (eVar 3) (eC (.int 1))) aNil)))) (aCons (e2 fAdd (e2 fAdd (eTup (aCons (eVar 2) aNil)) (eVar 8)) (eTup (aCons (e2 fIx (eVar 3) (eC (.int 1))) (aCons (eC (.int 0)) aNil)))) aNil)))))))))))
  mNext)
  (mSeq (mIf (tmOr (tmB (e2 fEq (eVar 2) (eC (.str "wire")))) (tmOr (tmB (e2 fEq (eVar 2) (eC (.str "unwire")))) (tmB (e2 fEq (eVar 2) (eC (.str "leave"))))))
  (mSeq (mAsgO 4 (l2 fAddL (eVar 4) (eL (lLc (imSeq (eVar 5)) [9] (gmName 9) tmYes (eTup (aCons (eVar 2) (aCons (eVar 9) (aCons (e2 fIx (eVar 3) (eC (.int 1))) aNil))))))))
  (mSeq (mAsgO 4 (l2 fAddL (eVar 4) (eL (lLc (imSeq (eVar 5)) [9] (gmName 9) tmYes (eTup (aCons (eVar 2) (aCons (e2 fIx (eVar 3) (eC (.int 0))) (aCons (eVar 9) aNil))))))))
  (mAsgO 4 (l2 fAddL (eVar 4) (eL (lLst (aCons (eTup (aCons (eVar 2) (aCons (eVar 3) aNil))) (aCons (eTup (aCons (eVar 2) (aCons (e2 fIx (eVar 3) (eC (.int 0))) (aCons (e2 fIx (eVar 3) (eC (.int 1))) (aCons (e2 fIx (eVar 3) (eC (.int 1))) aNil))))) aNil))))))))
  mNext)
  (mRet (eVar 4)))))
def strg : List D := [.bool true, .bool false, .int (-1), .str "1", .none, .tuple [.int 1], .list [.int 1], .tuple [], .str "", .int (-1000000000000000000000000000000)]
abbrev bE (xs : List Int) (v : Dv) (w : Str) (r : List D) (X v5 v6 v7 v8 : SV) : En := [.own (dr xs v), .dat (.tuple (.str w :: r)), .dat (.str w), .dat (.tuple r), X, v5, v6, v7, v8, .un]
theorem bents_pre {Q : Fl → En → Prop} (h : Wd w r.length) (hl : r.length ≤ 2) (hr : ∀ y ∈ r, Bt y) (hn : No (.tuple r)) (K : ∀ ds, (∀ x ∈ ds, No x) → 1 ≤ ds.length ∧ ds.length ≤ 15 → Wp (bnRest (bE xs v w r (.own (.lst ds)) (.dat (.list strg)) .un .un .un)) Q) :
    Wp (m__law_bents [.own (dr xs v), .dat (.tuple (.str w :: r)), .un, .un, .un, .un, .un, .un, .un, .un]) Q := by
  obtain ⟨⟨u1, u2⟩, ⟨s1, s2⟩, hwl⟩ := odd_words h
  obtain ⟨g1, g2, g3, g4⟩ := begin_none
  let E0 : En := [.own (dr xs v), .dat (.tuple (.str w :: r)), .un, .un, .un, .un, .un, .un, .un, .un]
  let E1 : En := [.own (dr xs v), .dat (.tuple (.str w :: r)), .dat (.str w), .un, .un, .un, .un, .un, .un, .un]
  refine wp_asgs (en1 := E0) (d := .str w) (e2_of (d := .tuple (.str w :: r)) (e := iD 0) rfl rfl (ixT (ds := .str w :: r) (k := 0) (Nat.succ_pos _))) ?_
  have hs : eSl (eVar 1) (oSome (eC (.int 1))) oNone E1 = .ok (.tuple ((.str w :: r).drop 1), E1) := by
    rw [eSl_ap, show eVar 1 E1 = .ok (.tuple (.str w :: r), E1) from rfl, bind_ok, oSome_ap, show eC (.int 1) E1 = .ok (iD 1, E1) from rfl, bind_ok, bind_ok, oNone_ap, bind_ok]
    dsimp only
    rw [cut_drop]
  refine wp_asgs (en1 := E1) (d := .tuple r) hs ?_
  let E2 := bE xs v w r .un .un .un .un .un
  have add : ∀ (p q : Em) (E : En) (as bs : List D), p E = .ok (.tuple as, E) → q E = .ok (.tuple bs, E) → as.length + bs.length ≤ 10 → e2 fAdd p q E = .ok (.tuple (as ++ bs), E) := fun p q E as bs hp hq hl => e2_of hp hq (fAdd_T _ _ (by omega))
  have hsl : eSl (eVar 1) oNone (oSome (e1 fNeg (eC (.int 1)))) E2 = .ok (.tuple ((.str w :: r).take r.length), E2) := by
    rw [eSl_ap, show eVar 1 E2 = .ok (.tuple (.str w :: r), E2) from rfl, bind_ok, oNone_ap, bind_ok, oSome_ap, show e1 fNeg (eC (.int 1)) E2 = .ok (.int (-1), E2) from rfl, bind_ok, bind_ok]
    dsimp only
    rw [cut_init]
    rfl
  have hup : eUp (eVar 2) E2 = .ok (.str (Txt.upper w), E2) := by
    show (if w.length ≤ 1000 then Rs.ok (PyData.str (Txt.upper w), E2) else .stk) = _
    rw [if_pos (by omega)]
  let A : List D := [.list (.str w :: r), .tuple ((.str w :: r) ++ [.int 0]), .tuple ((.str w :: r) ++ [.tuple []]), .tuple ((.str w :: r).take r.length), .tuple [.tuple (.str w :: r)], .str w, .tuple ([.str (Txt.upper w)] ++ r), .list [.str w]]
  refine wp_seq (en1 := bE xs v w r (.own (.lst A)) .un .un .un .un) (asgO_at (en1 := E2) (lst_of (tcons (lN_of (tone rfl) rfl) (tcons (add _ _ E2 _ _ rfl (tp_of (tone rfl)) (by show r.length + 1 + 1 ≤ 10; omega)) (tcons (add _ _ E2 _ _ rfl (tp_of (tone (tp_of tnil))) (by show r.length + 1 + 1 ≤ 10; omega)) (tcons hsl (tcons (tp_of (tone rfl)) (tcons rfl (tcons (add _ _ E2 _ _ (tp_of (tone hup)) rfl (by show 1 + r.length ≤ 10; omega)) (tone (ls_of (tone rfl)))))))))) (Nat.le_of_ble_eq_true rfl))) ?_
  have hA : ∀ x ∈ A, No x := by
    intro x hx
    have ap : ∀ y : D, Bt y → No (.tuple ((.str w :: r) ++ [y])) := fun y hy => no_rest (r := r ++ [y]) h.ok (by rw [List.length_append, List.length_singleton]; omega) (fun u hu => by
      rcases List.mem_append.mp hu with q | q
      · exact hr u q
      · rw [List.mem_singleton.mp q]; exact hy) (h.len (by rw [List.length_append, List.length_singleton]; omega))
    simp only [A, List.mem_cons, List.not_mem_nil, or_false] at hx
    rcases hx with rfl | rfl | rfl | rfl | rfl | rfl | rfl | rfl
    · exact no_list _
    · exact ap _ (fun ds e => by cases e)
    · exact ap _ (fun ds e => by cases e; exact Nat.zero_le _)
    · cases r with
      | nil => exact no_nil
      | cons y r' => exact no_rest (r := (y :: r').take r'.length) h.ok (by rw [List.length_take]; omega) (fun u hu => hr u (List.mem_of_mem_take hu)) (h.len (by rw [List.length_take, List.length_cons]; omega))
    · refine no_first (r := []) (fun w e => by cases e) (fun ds e => by cases e; rw [List.length_cons]; omega) (Nat.zero_le _) (fun y hy => by cases hy)
    · exact no_str w
    · exact no_rest (r := r) u1 (by omega) hr (ct_none u2)
    · exact no_list _
  have hf : fAddS (.str w) (.str " ") = .ok (.str (w ++ " ")) := by
    show (if w.length + (" " : Str).length ≤ 1000 then Rs.ok (PyData.str (w ++ " ")) else .stk) = _
    have : (" " : Str).length = 1 := by decide +kernel
    rw [if_pos (by omega)]
  let E3 := bE xs v w r (.dat (.list A)) .un .un .un .un
  let B : List D := [.tuple ([.str (w ++ " ")] ++ r), .tuple ([.str "begin"] ++ r), .tuple ([.str ""] ++ r), .tuple ([.none] ++ r), .tuple ([.int 0] ++ r), .tuple r]
  have l1 : ([.str "begin"] : List D).length + r.length ≤ 10 := by show 1 + r.length ≤ 10; omega
  refine wp_seq (en1 := bE xs v w r (.own (.lst (A ++ B))) .un .un .un .un) (addL_at (i := 4) (en := bE xs v w r (.own (.lst A)) .un .un .un .un) (en1 := E3) (es := B) rfl (ls_of (tcons (add _ _ E3 _ _ (tp_of (tone (e2_of (d := .str w) (e := .str " ") rfl rfl hf))) rfl l1) (tcons (add _ _ E3 _ _ (tp_of (tone rfl)) rfl l1) (tcons (add _ _ E3 _ _ (tp_of (tone rfl)) rfl l1) (tcons (add _ _ E3 _ _ (tp_of (tone rfl)) rfl l1) (tcons (add _ _ E3 _ _ (tp_of (tone rfl)) rfl l1) (tone rfl))))))) (Nat.le_of_ble_eq_true rfl)) ?_
  have hB : ∀ x ∈ B, No x := by
    intro x hx
    simp only [B, List.mem_cons, List.not_mem_nil, or_false] at hx
    rcases hx with rfl | rfl | rfl | rfl | rfl | rfl
    · exact no_rest (r := r) s1 (by omega) hr (ct_none s2)
    · exact no_rest (r := r) g3 (by omega) hr (ct_none g1)
    · exact no_rest (r := r) g4 (by omega) hr (ct_none g2)
    · exact no_first (r := r) (fun w e => by cases e) (fun ds e => by cases e) (by omega) hr
    · exact no_first (r := r) (fun w e => by cases e) (fun ds e => by cases e) (by omega) hr
    · exact hn
  let C : D := .tuple ([.tuple [.str "fear"]] ++ r)
  have hC : No C := no_first (r := r) (fun w e => by cases e) (fun ds e => by cases e; exact Nat.le_of_ble_eq_true rfl) (by omega) hr
  let E4 := bE xs v w r (.own (.lst (A ++ B))) .un .un .un .un
  refine wp_seq (en1 := bE xs v w r (.own (.lst (A ++ B ++ [C]))) .un .un .un .un) (app_at (i := 4) (en := E4) (en1 := E4) (ds0 := A ++ B) (ds := A ++ B) (d := C) rfl (add _ _ E4 _ _ (tp_of (tone (tp_of (tone rfl)))) rfl l1) rfl (by show 14 < 99999; omega)) ?_
  let E5 := bE xs v w r (.own (.lst (A ++ B ++ [C]))) .un .un .un .un
  refine wp_asgs (en1 := E5) (d := .list strg) (call_b (ds := []) rfl strange_ok) ?_
  refine K (A ++ B ++ [C]) (fun x hx => ?_) ⟨Nat.le_of_ble_eq_true rfl, Nat.le_of_ble_eq_true rfl⟩
  rcases List.mem_append.mp hx with hx | hx
  · rcases List.mem_append.mp hx with hx | hx
    · exact hA x hx
    · exact hB x hx
  · rw [List.mem_singleton.mp hx]; exact hC
end
end K42
end
section
set_option Elab.async false
set_option linter.all false
set_option maxRecDepth 100000
set_option maxHeartbeats 4000000
namespace K42
open PySem PySem.Spec PyProof.Rows L2 Mir
section
variable {xs : List Int} {d e a b x : D} {ds es r : List D} {w : Str} {en en1 : En} {i j k n m : Nat} {z : Bool} {v : Dv} {l : List Nat}
theorem strg_no (h : x ∈ strg) : numB x = false ∧ bitB x = false ∧ Bt x := by
  simp only [strg, List.mem_cons, List.not_mem_nil, or_false] at h
  rcases h with rfl | rfl | rfl | rfl | rfl | rfl | rfl | rfl | rfl | rfl
  · exact ⟨rfl, rfl, fun ds e => by cases e⟩
  · exact ⟨rfl, rfl, fun ds e => by cases e⟩
  · exact ⟨rfl, rfl, fun ds e => by cases e⟩
  · exact ⟨rfl, rfl, fun ds e => by cases e⟩
  · exact ⟨rfl, rfl, fun ds e => by cases e⟩
  · exact ⟨rfl, rfl, fun ds e => by cases e; exact Nat.le_of_ble_eq_true rfl⟩
  · exact ⟨rfl, rfl, fun ds e => by cases e⟩
  · exact ⟨rfl, rfl, fun ds e => by cases e; exact Nat.le_of_ble_eq_true rfl⟩
  · exact ⟨rfl, rfl, fun ds e => by cases e⟩
  · exact ⟨rfl, rfl, fun ds e => by cases e⟩
/-- what the bents come to -/
def Bts (xs : List Int) (fl : Fl) (en : En) : Prop := ∃ os v', fl = .rt (.list os) ∧ pinAt en 0 = some (dr xs v') ∧ Ok v' ∧ (∀ x ∈ os, No x) ∧ 1 ≤ os.length ∧ os.length ≤ 60
theorem bt2 (ha : Bt a) (hb : Bt b) : ∀ y ∈ [a, b], Bt y := fun y hy => by
  rcases List.mem_cons.mp hy with q | q
  · rw [q]; exact ha
  · rw [List.mem_singleton.mp q]; exact hb
theorem bents_two {p q : Nat} (h : Ok v) (hw : w = "wire" ∨ w = "unwire" ∨ w = "leave") (hd : ∀ x ∈ ds, No x) (hl : 1 ≤ ds.length ∧ ds.length ≤ 15) : Wp (bnRest (bE xs v w [iD p, iD q] (.own (.lst ds)) (.dat (.list strg)) .un .un .un)) (Bts xs) := by
  have W : Wd w 2 := .inr (.inr (.inl ⟨hw, rfl⟩))
  let E : SV → En := fun X => bE xs v w [iD p, iD q] X (.dat (.list strg)) .un .un .un
  have t1 : tmOr (tmB (e2 fEq (eVar 2) (eC (.str "fear")))) (tmB (e2 fEq (eVar 2) (eC (.str "calm")))) (E (.own (.lst ds))) = .ok (false, E (.own (.lst ds))) := by rcases hw with rfl | rfl | rfl <;> kernel_rfl
  have t2 : tmB (e2 fEq (eVar 2) (eC (.str "answer"))) (E (.own (.lst ds))) = .ok (false, E (.own (.lst ds))) := by rcases hw with rfl | rfl | rfl <;> kernel_rfl
  have t3 : tmOr (tmB (e2 fEq (eVar 2) (eC (.str "wire")))) (tmOr (tmB (e2 fEq (eVar 2) (eC (.str "unwire")))) (tmB (e2 fEq (eVar 2) (eC (.str "leave"))))) (E (.own (.lst ds))) = .ok (true, E (.own (.lst ds))) := by rcases hw with rfl | rfl | rfl <;> kernel_rfl
  refine wp_bind (wp_if t1 (fun q => by cases q) (fun _ => wp_next ?_))
  refine wp_bind (wp_if t2 (fun q => by cases q) (fun _ => wp_next ?_))
  refine wp_bind (wp_if t3 (fun _ => ?_) (fun q => by cases q))
  have cp : ∀ (X : SV) (M : Em) (f : D → D) (hX : noOwn (E X) [9] = true), (∀ x ∈ strg, M ((E X).set 9 (.dat x)) = .ok (f x, (E X).set 9 (.dat x))) → eL (lLc (imSeq (eVar 5)) [9] (gmName 9) tmYes M) (E X) = .ok (.list (strg.map f), E X) := fun X M f hX hM =>
    el_of (lc_map (j := 9) (enc := fun x : D => x) (xs := strg) (f := f) (imS_at (d := .list strg) rfl (by rw [List.map_id']; rfl)) hM (Nat.le_of_ble_eq_true rfl) (Nat.le_of_ble_eq_true rfl) hX)
  let f1 : D → D := fun x => .tuple [.str w, x, iD q]
  let f2 : D → D := fun x => .tuple [.str w, iD p, x]
  let o1 := ds ++ strg.map f1
  let o2 := o1 ++ strg.map f2
  let A : List D := [.tuple [.str w, .tuple [iD p, iD q]], .tuple [.str w, iD p, iD q, iD q]]
  have l1 : (strg.map f1).length = 10 := by rw [List.length_map]; rfl
  have l2 : (strg.map f2).length = 10 := by rw [List.length_map]; rfl
  have lo1 : 1 ≤ o1.length ∧ o1.length ≤ 25 := by show 1 ≤ (ds ++ strg.map f1).length ∧ (ds ++ strg.map f1).length ≤ 25; rw [List.length_append, l1]; omega
  have lo2 : 1 ≤ o2.length ∧ o2.length ≤ 35 := by show 1 ≤ (o1 ++ strg.map f2).length ∧ (o1 ++ strg.map f2).length ≤ 35; rw [List.length_append, l2]; omega
  refine wp_seq (en1 := E (.own (.lst o1))) (addL_at (i := 4) (en1 := E (.dat (.list ds))) rfl (cp (.dat (.list ds)) _ f1 rfl fun x _ => tp_of (tcons rfl (tcons rfl (tone (e2_of (d := .tuple [iD p, iD q]) (e := iD 1) rfl rfl rfl))))) (by rw [l1]; omega)) ?_
  refine wp_seq (en1 := E (.own (.lst o2))) (addL_at (i := 4) (en1 := E (.dat (.list o1))) rfl (cp (.dat (.list o1)) _ f2 rfl fun x _ => tp_of (tcons rfl (tcons (e2_of (d := .tuple [iD p, iD q]) (e := iD 0) rfl rfl rfl) (tone rfl)))) (by rw [l2]; omega)) ?_
  have i0 : e2 fIx (eVar 3) (eC (.int 0)) (E (.dat (.list o2))) = .ok (iD p, E (.dat (.list o2))) := e2_of (d := .tuple [iD p, iD q]) (e := iD 0) rfl rfl rfl
  have i1 : e2 fIx (eVar 3) (eC (.int 1)) (E (.dat (.list o2))) = .ok (iD q, E (.dat (.list o2))) := e2_of (d := .tuple [iD p, iD q]) (e := iD 1) rfl rfl rfl
  refine ⟨.nx, _, addL_at (i := 4) (en := E (.own (.lst o2))) (en1 := E (.dat (.list o2))) (es := A) rfl (ls_of (tcons (tp_of (tcons rfl (tone rfl))) (tone (tp_of (tcons rfl (tcons i0 (tcons i1 (tone i1)))))))) (by show o2.length + 2 ≤ 1000; omega), ?_⟩
  refine wp_ret (d := .list (o2 ++ A)) (en1 := E (.dat (.list (o2 ++ A)))) rfl ⟨o2 ++ A, v, rfl, rfl, h, fun x hx => ?_, by rw [List.length_append]; show 1 ≤ o2.length + 2 ∧ o2.length + 2 ≤ 60; omega⟩
  rcases List.mem_append.mp hx with hx | hx
  · rcases List.mem_append.mp hx with hx | hx
    · rcases List.mem_append.mp hx with hx | hx
      · exact hd x hx
      · obtain ⟨y, hy, rfl⟩ := List.mem_map.mp hx
        obtain ⟨n1, _, n3⟩ := strg_no hy
        refine no_rest (r := [y, iD q]) W.ok (Nat.le_of_ble_eq_true rfl) (bt2 n3 (bt_iD q)) ?_
        rw [rest_wire hw]
        show (true && (numB y && _)) = false
        rw [n1]
        rfl
    · obtain ⟨y, hy, rfl⟩ := List.mem_map.mp hx
      obtain ⟨n1, _, n3⟩ := strg_no hy
      refine no_rest (r := [iD p, y]) W.ok (Nat.le_of_ble_eq_true rfl) (bt2 (bt_iD p) n3) ?_
      rw [rest_wire hw]
      show (true && (numB (iD p) && (numB y && true))) = false
      rw [n1, Bool.false_and, Bool.and_false]
      rfl
  · simp only [A, List.mem_cons, List.not_mem_nil, or_false] at hx
    rcases hx with rfl | rfl
    · exact no_rest (r := [.tuple [iD p, iD q]]) W.ok (Nat.le_of_ble_eq_true rfl) (fun y hy => by rw [List.mem_singleton.mp hy]; exact fun ds e => by cases e; exact Nat.le_of_ble_eq_true rfl) (W.len (by show 1 ≠ 2; omega))
    · exact no_rest (r := [iD p, iD q, iD q]) W.ok (Nat.le_of_ble_eq_true rfl) (fun y hy => by
        rcases List.mem_cons.mp hy with z | z
        · rw [z]; exact bt_iD p
        · exact bt2 (bt_iD q) (bt_iD q) y z) (W.len (by show 3 ≠ 2; omega))
theorem bents_ent (h : Ok v) (hd : ∀ x ∈ ds, No x) (hl : 1 ≤ ds.length ∧ ds.length ≤ 15) : Wp (bnRest (bE xs v "enter" [] (.own (.lst ds)) (.dat (.list strg)) .un .un .un)) (Bts xs) := by
  let E : SV → En := fun X => bE xs v "enter" [] X (.dat (.list strg)) .un .un .un
  refine wp_bind (wp_if (x := false) (en1 := E (.own (.lst ds))) (by kernel_rfl) (fun q => by cases q) (fun _ => wp_next ?_))
  refine wp_bind (wp_if (x := false) (en1 := E (.own (.lst ds))) (by kernel_rfl) (fun q => by cases q) (fun _ => wp_next ?_))
  refine wp_bind (wp_if (x := false) (en1 := E (.own (.lst ds))) (by kernel_rfl) (fun q => by cases q) (fun _ => wp_next ?_))
  exact wp_ret (d := .list ds) (en1 := E (.dat (.list ds))) rfl ⟨ds, v, rfl, rfl, h, hd, by omega⟩
end
end K42
end
section
set_option Elab.async false
set_option linter.all false
set_option maxRecDepth 100000
set_option maxHeartbeats 4000000
namespace K42
open PySem PySem.Spec PyProof.Rows L2 Mir
section
variable {xs : List Int} {d e a b x : D} {ds es r : List D} {w : Str} {en en1 en2 : En} {i j k n m : Nat} {z : Bool} {v : Dv} {l ys : List Nat}
theorem slT_hi {a hi : Em} {q : Nat} (ha : a en = .ok (.tuple ds, en)) (hq : hi en = .ok (iD q, en)) : eSl a oNone (oSome hi) en = .ok (.tuple (ds.take q), en) := by
  rw [eSl_ap, ha, bind_ok, oNone_ap, bind_ok, oSome_ap, hq, bind_ok, bind_ok]
  dsimp only
  rw [cut_take]
theorem slT_lo {a lo : Em} {q : Nat} (ha : a en = .ok (.tuple ds, en)) (hq : lo en = .ok (iD q, en)) : eSl a (oSome lo) oNone en = .ok (.tuple (ds.drop q), en) := by
  rw [eSl_ap, ha, bind_ok, oSome_ap, hq, bind_ok, bind_ok, oNone_ap, bind_ok]
  dsimp only
  rw [cut_drop]
theorem addT {p q : Em} {as bs : List D} (hp : p en = .ok (.tuple as, en)) (hq : q en = .ok (.tuple bs, en)) (hl : as.length + bs.length ≤ 1000) : e2 fAdd p q en = .ok (.tuple (as ++ bs), en) := e2_of hp hq (fAdd_T _ _ (by omega))
/-- not rising -/
theorem lot_no (hk : k + 1 < ys.length) (h : ys[k + 1] ≤ ys[k]) : lotB (tupN ys) = false := by
  show ((ys.map iD).all numB && riseB (ys.map iD)) = false
  rw [all_iD, Bool.true_and]
  cases q : riseB (ys.map iD) with
  | false => rfl
  | true =>
    have := List.all_eq_true.mp q k (by rw [List.mem_range, List.length_map]; omega)
    unfold lessB at this
    rw [getD_iD (by omega), getD_iD hk] at this
    have := of_decide_eq_true this
    have : ((ys[k] : Nat) : Int) < ((ys[k + 1] : Nat) : Int) := this
    omega
theorem lot_odd {as bs : List D} (hx : numB x = false) : lotB (.tuple (as ++ [x] ++ bs)) = false := by
  show ((as ++ [x] ++ bs).all numB && _) = false
  have : (as ++ [x] ++ bs).all numB = false := by
    rw [List.all_append, List.all_append, List.all_cons, hx, Bool.false_and, Bool.and_false, Bool.false_and]
  rw [this]
  rfl
theorem no_lot (hw : w = "fear" ∨ w = "calm") (hb : Bt d) (h : lotB d = false) : No (.tuple [.str w, d]) := by
  have W : Wd w 1 := .inl ⟨hw, rfl⟩
  refine no_rest (r := [d]) W.ok (Nat.le_of_ble_eq_true rfl) (fun y hy => by rw [List.mem_singleton.mp hy]; exact hb) ?_
  rw [rest_fear hw]
  show (true && lotB d) = false
  rw [h]
  rfl
end
end K42
end
section
set_option Elab.async false
set_option linter.all false
set_option maxRecDepth 100000
set_option maxHeartbeats 4000000
namespace K42
open PySem PySem.Spec PyProof.Rows L2 Mir
section
variable {xs : List Int} {d e a b x : D} {ds es r : List D} {w : Str} {en en1 en2 : En} {i j k n m : Nat} {z : Bool} {v : Dv} {l ys : List Nat}
theorem slT_last {a : Em} (ha : a en = .ok (.tuple (ds ++ [d]), en)) : eSl a (oSome (e1 fNeg (eC (.int 1)))) oNone en = .ok (.tuple [d], en) := by
  have hq : e1 fNeg (eC (.int 1)) en = .ok (.int (-1), en) := rfl
  rw [eSl_ap, ha, bind_ok, oSome_ap, hq, bind_ok, bind_ok, oNone_ap, bind_ok]
  dsimp only
  rw [cut_last]
theorem bt_N (h : ys.length ≤ 20) : Bt (tupN ys) := fun es e => by
  cases e
  rw [List.length_map]
  omega
theorem first_le (asc : l.Pairwise (· < ·)) (q : 0 < l.length) : l[0] ≤ l[l.length - 1] := by
  by_cases h : l.length = 1
  · exact Nat.le_of_eq (by congr 1; omega)
  · exact Nat.le_of_lt (List.pairwise_iff_getElem.mp asc 0 (l.length - 1) q (by omega) (by omega))
theorem rep_last (hw : w = "fear" ∨ w = "calm") (z : Nat) (h : l.length ≤ 6) : No (.tuple [.str w, tupN (l ++ [z] ++ [z])]) := by
  have n : (l ++ [z] ++ [z]).length = l.length + 2 := by rw [List.length_append, List.length_append]; rfl
  refine no_lot hw (bt_N (by omega)) (lot_no (k := l.length) (by omega) ?_)
  rw [List.getElem_append_right (by rw [List.length_append]; exact Nat.le_refl _), List.getElem_append_left (by rw [List.length_append]; exact Nat.lt_succ_self _), List.getElem_append_right (Nat.le_refl _)]
  rw [List.getElem_singleton, List.getElem_singleton]
  exact Nat.le_refl _
theorem rep_first (hw : w = "fear" ∨ w = "calm") (q : 0 < l.length) (h : l.length ≤ 6) : No (.tuple [.str w, tupN (l.take 1 ++ l)]) := by
  match l, q, h with
  | y :: t, _, h =>
    have h : t.length + 1 ≤ 6 := h
    refine no_lot hw (bt_N (by show t.length + 1 + 1 ≤ 20; omega)) (lot_no (k := 0) (by show 1 < t.length + 1 + 1; omega) (Nat.le_refl y))
theorem rep_turn (hw : w = "fear" ∨ w = "calm") (asc : l.Pairwise (· < ·)) (q : 0 < l.length) (h : l.length ≤ 6) : No (.tuple [.str w, tupN (l ++ [l[0]])]) := by
  have n : (l ++ [l[0]]).length = l.length + 1 := List.length_append
  refine no_lot hw (bt_N (by omega)) (lot_no (k := l.length - 1) (by omega) ?_)
  rw [List.getElem_append_right (by omega), List.getElem_append_left (by omega), List.getElem_singleton]
  exact first_le asc q
theorem turned (hw : w = "fear" ∨ w = "calm") (asc : l.Pairwise (· < ·)) (q : 1 < l.length) (h : l.length ≤ 6) : No (.tuple [.str w, tupN (l.drop 1 ++ l.take 1)]) := by
  match l, q, h, asc with
  | y :: t, q, h, asc =>
    have q : 1 < t.length + 1 := q
    have h : t.length + 1 ≤ 6 := h
    have n : (t ++ [y]).length = t.length + 1 := List.length_append
    show No (.tuple [.str w, tupN (t ++ [y])])
    refine no_lot hw (bt_N (by omega)) (lot_no (k := t.length - 1) (by omega) ?_)
    rw [List.getElem_append_right (by omega), List.getElem_append_left (by omega), List.getElem_singleton]
    exact Nat.le_of_lt ((List.pairwise_cons.mp asc).1 _ (List.getElem_mem _))
theorem bents_lot (h : Ok v) (hw : w = "fear" ∨ w = "calm") (asc : l.Pairwise (· < ·)) (len : l.length ≤ 6) (hd : ∀ x ∈ ds, No x) (hl : 1 ≤ ds.length ∧ ds.length ≤ 15) : Wp (bnRest (bE xs v w [tupN l] (.own (.lst ds)) (.dat (.list strg)) .un .un .un)) (Bts xs) := by
  let E : Dv → SV → SV → SV → En := fun v X v6 v7 => bE xs v w [tupN l] X (.dat (.list strg)) v6 v7 .un
  have t1 : tmOr (tmB (e2 fEq (eVar 2) (eC (.str "fear")))) (tmB (e2 fEq (eVar 2) (eC (.str "calm")))) (E v (.own (.lst ds)) .un .un) = .ok (true, E v (.own (.lst ds)) .un .un) := by rcases hw with rfl | rfl <;> kernel_rfl
  have t2 : ∀ v X v6 v7, tmB (e2 fEq (eVar 2) (eC (.str "answer"))) (E v X v6 v7) = .ok (false, E v X v6 v7) := fun v X v6 v7 => by rcases hw with rfl | rfl <;> kernel_rfl
  have t3 : ∀ v X v6 v7, tmOr (tmB (e2 fEq (eVar 2) (eC (.str "wire")))) (tmOr (tmB (e2 fEq (eVar 2) (eC (.str "unwire")))) (tmB (e2 fEq (eVar 2) (eC (.str "leave"))))) (E v X v6 v7) = .ok (false, E v X v6 v7) := fun v X v6 v7 => by rcases hw with rfl | rfl <;> kernel_rfl
  refine wp_bind (wp_if t1 (fun _ => ?_) (fun q => by cases q))
  refine wp_asgs (d := tupN l) (en1 := E v (.own (.lst ds)) .un .un) (e2_of (d := .tuple [tupN l]) (e := iD 0) rfl rfl rfl) ?_
  obtain ⟨k, v', e', h, hk⟩ := drw h (m := l.length + 1) (i := 0) (en := E v (.own (.lst ds)) (.dat (tupN l)) .un) (a := e2 fAdd (eN fLen (aCons (eVar 6) aNil)) (eC (.int 1))) rfl (e2_of (d := iD l.length) (e := iD 1) (en1_of (d := tupN l) rfl (fLen_tupN l)) rfl (fAdd_N _ _)) (by omega)
  refine wp_seq (en1 := E v' (.own (.lst ds)) (.dat (tupN l)) (.dat (iD k))) (asg_at e') ?_
  let G : SV → En := fun X => E v' X (.dat (tupN l)) (.dat (iD k))
  let f1 : D → D := fun x => .tuple [.str w, .tuple ((l.map iD).take k ++ [x] ++ (l.map iD).drop k)]
  have lm : (l.map iD).length = l.length := List.length_map ..
  have l1 : (strg.map f1).length = 10 := by rw [List.length_map]; rfl
  have c1 : eL (lLc (imSeq (eVar 5)) [9] (gmName 9) tmYes (eTup (aCons (eVar 2) (aCons (e2 fAdd (e2 fAdd (eSl (eVar 6) oNone (oSome (eVar 7))) (eTup (aCons (eVar 9) aNil))) (eSl (eVar 6) (oSome (eVar 7)) oNone)) aNil)))) (G (.dat (.list ds))) = .ok (.list (strg.map f1), G (.dat (.list ds))) :=
    el_of (lc_map (j := 9) (enc := fun x : D => x) (xs := strg) (f := f1) (imS_at (d := .list strg) rfl (by rw [List.map_id']; rfl)) (fun x _ => tp_of (tcons rfl (tone (addT (addT (slT_hi (ds := l.map iD) rfl rfl) (tp_of (tone rfl)) (by rw [List.length_take, lm]; show _ + 1 ≤ 1000; omega)) (slT_lo (ds := l.map iD) rfl rfl) (by rw [List.length_append, List.length_take, List.length_drop, lm]; show _ + 1 + _ ≤ 1000; omega))))) (Nat.le_of_ble_eq_true rfl) (Nat.le_of_ble_eq_true rfl) rfl)
  let o1 := ds ++ strg.map f1
  have lo1 : 1 ≤ o1.length ∧ o1.length ≤ 25 := by show 1 ≤ (ds ++ strg.map f1).length ∧ (ds ++ strg.map f1).length ≤ 25; rw [List.length_append, l1]; omega
  refine wp_seq (en1 := G (.own (.lst o1))) (addL_at (i := 4) (en1 := G (.dat (.list ds))) rfl c1 (by rw [l1]; omega)) ?_
  let A : List D := [.tuple [.str w, .list (l.map iD)], .tuple [.str w, .none], .tuple [.str w, .bool true], .tuple [.str w, .int 0], .tuple [.str w, .str "0"]]
  let o2 := o1 ++ A
  have lo2 : 1 ≤ o2.length ∧ o2.length ≤ 30 := by show 1 ≤ (o1 ++ A).length ∧ (o1 ++ A).length ≤ 30; rw [List.length_append]; show 1 ≤ _ + 5 ∧ _ + 5 ≤ 30; omega
  refine wp_seq (en1 := G (.own (.lst o2))) (addL_at (i := 4) (en1 := G (.dat (.list o1))) (es := A) rfl (ls_of (tcons (tp_of (tcons rfl (tone (lN_of (tone rfl) rfl)))) (tcons (tp_of (tcons rfl (tone rfl))) (tcons (tp_of (tcons rfl (tone rfl))) (tcons (tp_of (tcons rfl (tone rfl))) (tone (tp_of (tcons rfl (tone rfl))))))))) (by show o1.length + 5 ≤ 1000; omega)) ?_
  have n1 : ∀ x ∈ o1, No x := fun x hx => by
    rcases List.mem_append.mp hx with hx | hx
    · exact hd x hx
    · obtain ⟨y, hy, rfl⟩ := List.mem_map.mp hx
      obtain ⟨y1, _, y3⟩ := strg_no hy
      refine no_lot hw (fun es e => ?_) (lot_odd y1)
      cases e
      rw [List.length_append, List.length_append, List.length_take, List.length_drop, lm, List.length_singleton]
      omega
  have n2 : ∀ x ∈ o2, No x := fun x hx => by
    rcases List.mem_append.mp hx with hx | hx
    · exact n1 x hx
    · simp only [A, List.mem_cons, List.not_mem_nil, or_false] at hx
      rcases hx with rfl | rfl | rfl | rfl | rfl
      · exact no_lot hw (fun es e => by cases e) rfl
      · exact no_lot hw (fun es e => by cases e) rfl
      · exact no_lot hw (fun es e => by cases e) rfl
      · exact no_lot hw (fun es e => by cases e) rfl
      · exact no_lot hw (fun es e => by cases e) rfl
  have fin : ∀ (os : List D), (∀ x ∈ os, No x) → 1 ≤ os.length ∧ os.length ≤ 40 → Wp ((mSeq (mIf (tmB (e2 fEq (eVar 2) (eC (.str "answer"))))
  (mSeq (mAsg (gmName 8) (e2 fIx (eVar 3) (eC (.int 0))))
  (mSeq (mAsg (gmName 7) (eCallD M__law_draw 0 (aCons (eN fLen (aCons (eVar 8) aNil)) aNil)))
  (mSeq (mAsgO 4 (l2 fAddL (eVar 4) (eL (lLc (imSeq (eVar 5)) [9] (gmName 9) tmYes (eTup (aCons (eVar 2) (aCons (e2 fAdd (e2 fAdd (eSl (eVar 8) oNone (oSome (eVar 7))) (eTup (aCons (eVar 9) aNil))) (eSl (eVar 8) (oSome (e2 fAdd (eVar 7) (eC (.int 1)))) oNone)) (aCons (e2 fIx (eVar 3) (eC (.int 1))) aNil))))))))
  (mSeq (mAsgO 4 (l2 fAddL (eVar 4) (eL (lLc (imSeq (e2 fAdd (eVar 5) (eL (lLst (aCons (eC (.int 2)) (aCons (e2 fPow (eC (.int 10)) (eC (.int 40))) aNil)))))) [9] (gmName 9) tmYes (eTup (aCons (eVar 2) (aCons (eVar 8) (aCons (eVar 9) aNil))))))))
  (mSeq (mAsgO 4 (l2 fAddL (eVar 4) (eL (lLst (aCons (eTup (aCons (eVar 2) (aCons (eTup aNil) (aCons (e2 fIx (eVar 3) (eC (.int 1))) aNil)))) (aCons (eTup (aCons (eVar 2) (aCons (eL (lN fList (aCons (eVar 8) aNil))) (aCons (e2 fIx (eVar 3) (eC (.int 1))) aNil)))) (aCons (eTup (aCons (eVar 2) (aCons (e2 fIx (eVar 3) (eC (.int 1))) (aCons (eVar 8) aNil)))) aNil)))))))
  (mAsgO 4 (l2 fAddL (eVar 4) (eL (lLst (aCons (eTup (aCons (eVar 2) (aCons (e2 fIx (eVar 8) (eC (.int 0))) (aCons (e2 fIx (eVar 3) (eC (.int 1))) aNil)))) (aCons (e2 fAdd (e2 fAdd (eTup (aCons (eVar 2) aNil)) (eVar 8)) (eTup (aCons (e2 fIx (eVar 3) (eC (.int 1))) (aCons (eC (.int 0)) aNil)))) aNil)))))))))))
  mNext)
  (mSeq (mIf (tmOr (tmB (e2 fEq (eVar 2) (eC (.str "wire")))) (tmOr (tmB (e2 fEq (eVar 2) (eC (.str "unwire")))) (tmB (e2 fEq (eVar 2) (eC (.str "leave"))))))
  (mSeq (mAsgO 4 (l2 fAddL (eVar 4) (eL (lLc (imSeq (eVar 5)) [9] (gmName 9) tmYes (eTup (aCons (eVar 2) (aCons (eVar 9) (aCons (e2 fIx (eVar 3) (eC (.int 1))) aNil))))))))
  (mSeq (mAsgO 4 (l2 fAddL (eVar 4) (eL (lLc (imSeq (eVar 5)) [9] (gmName 9) tmYes (eTup (aCons (eVar 2) (aCons (e2 fIx (eVar 3) (eC (.int 0))) (aCons (eVar 9) aNil))))))))
  (mAsgO 4 (l2 fAddL (eVar 4) (eL (lLst (aCons (eTup (aCons (eVar 2) (aCons (eVar 3) aNil))) (aCons (eTup (aCons (eVar 2) (aCons (e2 fIx (eVar 3) (eC (.int 0))) (aCons (e2 fIx (eVar 3) (eC (.int 1))) (aCons (e2 fIx (eVar 3) (eC (.int 1))) aNil))))) aNil))))))))
  mNext)
  (mRet (eVar 4)))) (G (.own (.lst os)))) (Bts xs) := fun os ho hlo => by
    refine wp_bind (wp_if (t2 _ _ _ _) (fun q => by cases q) (fun _ => wp_next ?_))
    refine wp_bind (wp_if (t3 _ _ _ _) (fun q => by cases q) (fun _ => wp_next ?_))
    exact wp_ret (d := .list os) (en1 := G (.dat (.list os))) rfl ⟨os, v', rfl, rfl, h, ho, by omega⟩
  have lenL : ∀ X, eN fLen (aCons (eVar 6) aNil) (G X) = .ok (iD l.length, G X) := fun X => en1_of (d := tupN l) rfl (fLen_tupN l)
  have tup : ∀ q : List Nat, PyData.tuple (q.map iD) = tupN q := fun _ => rfl
  refine wp_bind (wp_if (x := decide (0 < l.length)) (en1 := G (.own (.lst o2))) (b_of (e2_of (d := iD l.length) (e := iD 0) (lenL _) rfl (fGt_N _ 0))) (fun q => ?_) (fun q => wp_next ?_))
  · have q := of_decide_eq_true q
    have cz : l.dropLast ++ [l.getLast (List.ne_nil_of_length_pos q)] = l := List.dropLast_concat_getLast _
    let z : Nat := l.getLast (List.ne_nil_of_length_pos q)
    have vz : ∀ X, eVar 6 (G X) = .ok (.tuple (l.dropLast.map iD ++ [iD z]), G X) := fun X => by
      have : l.dropLast.map iD ++ [iD z] = l.map iD := by
        rw [← List.map_singleton (f := iD) (a := z), ← List.map_append]
        exact congrArg _ cz
      rw [this]
      rfl
    have A1 : ∀ X, e2 fAdd (eVar 6) (eSl (eVar 6) (oSome (e1 fNeg (eC (.int 1)))) oNone) (G X) = .ok (tupN (l ++ [z]), G X) := fun X => by
      rw [addT (as := l.map iD) (bs := [iD z]) rfl (slT_last (vz X)) (by rw [lm]; show _ + 1 ≤ 1000; omega)]
      show _ = Rs.ok (PyData.tuple ((l ++ [z]).map iD), _)
      rw [List.map_append]
      rfl
    have A2 : ∀ X, e2 fAdd (eSl (eVar 6) oNone (oSome (eC (.int 1)))) (eVar 6) (G X) = .ok (tupN (l.take 1 ++ l), G X) := fun X => by
      rw [addT (as := (l.map iD).take 1) (bs := l.map iD) (slT_hi (q := 1) rfl rfl) rfl (by rw [List.length_take, lm]; omega)]
      show _ = Rs.ok (PyData.tuple ((l.take 1 ++ l).map iD), _)
      rw [List.map_append, List.map_take]
    have A3 : ∀ X, e2 fAdd (eVar 6) (eTup (aCons (e2 fIx (eVar 6) (eC (.int 0))) aNil)) (G X) = .ok (tupN (l ++ [l[0]]), G X) := fun X => by
      rw [addT (as := l.map iD) (bs := [iD l[0]]) rfl (tp_of (tone (e2_of (d := tupN l) (e := iD 0) rfl rfl (fIx_tupN l 0 q)))) (by rw [lm]; show _ + 1 ≤ 1000; omega)]
      show _ = Rs.ok (PyData.tuple ((l ++ [l[0]]).map iD), _)
      rw [List.map_append]
      rfl
    let B : List D := [.tuple [.str w, tupN (l ++ [z])], .tuple [.str w, tupN (l.take 1 ++ l)], .tuple [.str w, tupN (l ++ [l[0]])]]
    let o3 := o2 ++ B
    have lo3 : 1 ≤ o3.length ∧ o3.length ≤ 33 := by show 1 ≤ (o2 ++ B).length ∧ (o2 ++ B).length ≤ 33; rw [List.length_append]; show 1 ≤ _ + 3 ∧ _ + 3 ≤ 33; omega
    have n3 : ∀ x ∈ o3, No x := fun x hx => by
      rcases List.mem_append.mp hx with hx | hx
      · exact n2 x hx
      · simp only [B, List.mem_cons, List.not_mem_nil, or_false] at hx
        rcases hx with rfl | rfl | rfl
        · have := rep_last hw (l := l.dropLast) z (by rw [List.length_dropLast]; omega)
          rw [show l.dropLast ++ [z] = l from cz] at this
          exact this
        · exact rep_first hw q len
        · exact rep_turn hw asc q len
    refine ⟨.nx, G (.own (.lst o3)), addL_at (i := 4) (en1 := G (.dat (.list o2))) (es := B) rfl (ls_of (tcons (tp_of (tcons rfl (tone (A1 _)))) (tcons (tp_of (tcons rfl (tone (A2 _)))) (tone (tp_of (tcons rfl (tone (A3 _)))))))) (by show o2.length + 3 ≤ 1000; omega), ?_⟩
    refine wp_if (x := decide (1 < l.length)) (en1 := G (.own (.lst o3))) (b_of (e2_of (d := iD l.length) (e := iD 1) (lenL _) rfl (fGt_N _ 1))) (fun q2 => ?_) (fun _ => wp_next (fin o3 n3 (by omega)))
    have q2 := of_decide_eq_true q2
    have A4 : ∀ X, e2 fAdd (eSl (eVar 6) (oSome (eC (.int 1))) oNone) (eSl (eVar 6) oNone (oSome (eC (.int 1)))) (G X) = .ok (tupN (l.drop 1 ++ l.take 1), G X) := fun X => by
      rw [addT (as := (l.map iD).drop 1) (bs := (l.map iD).take 1) (slT_lo (q := 1) rfl rfl) (slT_hi (q := 1) rfl rfl) (by rw [List.length_take, List.length_drop, lm]; omega)]
      show _ = Rs.ok (PyData.tuple ((l.drop 1 ++ l.take 1).map iD), _)
      rw [List.map_append, List.map_take, List.map_drop]
    let o4 := o3 ++ [.tuple [.str w, tupN (l.drop 1 ++ l.take 1)]]
    have lo4 : 1 ≤ o4.length ∧ o4.length ≤ 34 := by show 1 ≤ (o3 ++ [_]).length ∧ (o3 ++ [_]).length ≤ 34; rw [List.length_append]; show 1 ≤ _ + 1 ∧ _ + 1 ≤ 34; omega
    have n4 : ∀ x ∈ o4, No x := fun x hx => by
      rcases List.mem_append.mp hx with hx | hx
      · exact n3 x hx
      · rw [List.mem_singleton.mp hx]
        exact turned hw asc q2 len
    refine ⟨.nx, G (.own (.lst o4)), app_at (i := 4) (ds0 := o3) (en1 := G (.own (.lst o3))) rfl (tp_of (tcons rfl (tone (A4 _)))) rfl (by show o3.length < 99999; omega), ?_⟩
    exact fin o4 n4 (by omega)
  · have q := of_decide_eq_false q
    refine wp_if (x := false) (en1 := G (.own (.lst o2))) (b_of (e2_of (d := iD l.length) (e := iD 1) (lenL _) rfl (by rw [fGt_N, decide_eq_false (by omega)]))) (fun q => by cases q) (fun _ => wp_next (fin o2 n2 (by omega)))
end
end K42
end
section
set_option Elab.async false
set_option linter.all false
set_option maxRecDepth 100000
set_option maxHeartbeats 4000000
namespace K42
open PySem PySem.Spec PyProof.Rows L2 Mir
section
variable {xs : List Int} {d e a b x : D} {ds es r : List D} {w : Str} {en en1 en2 : En} {i j k n m : Nat} {z : Bool} {v : Dv} {l ys : List Nat}
theorem no_ans (ha : Bt a) (hb : Bt b) (h : (numsB a && (decide (0 < lenB a) && bitB b)) = false) : No (.tuple [.str "answer", a, b]) := by
  have W : Wd "answer" 2 := .inr (.inl ⟨rfl, rfl⟩)
  refine no_rest (r := [a, b]) W.ok (Nat.le_of_ble_eq_true rfl) (bt2 ha hb) ?_
  rw [rest_ans]
  show (true && (numsB a && (decide (0 < lenB a) && bitB b))) = false
  rw [h]
  rfl
theorem nums_odd {as bs : List D} (hx : numB x = false) : numsB (.tuple (as ++ [x] ++ bs)) = false := by
  show (as ++ [x] ++ bs).all numB = false
  rw [List.all_append, List.all_append, List.all_cons, hx, Bool.false_and, Bool.and_false, Bool.false_and]
theorem bents_ans {b : Nat} (h : Ok v) (pos : 0 < l.length) (len : l.length ≤ 7) (hd : ∀ x ∈ ds, No x) (hl : 1 ≤ ds.length ∧ ds.length ≤ 15) : Wp (bnRest (bE xs v "answer" [tupN l, iD b] (.own (.lst ds)) (.dat (.list strg)) .un .un .un)) (Bts xs) := by
  have W : Wd "answer" 2 := .inr (.inl ⟨rfl, rfl⟩)
  let E : Dv → SV → SV → SV → En := fun v X v7 v8 => bE xs v "answer" [tupN l, iD b] X (.dat (.list strg)) .un v7 v8
  have lm : (l.map iD).length = l.length := List.length_map ..
  refine wp_bind (wp_if (x := false) (en1 := E v (.own (.lst ds)) .un .un) (by kernel_rfl) (fun q => by cases q) (fun _ => wp_next ?_))
  refine wp_bind (wp_if (x := true) (en1 := E v (.own (.lst ds)) .un .un) (by kernel_rfl) (fun _ => ?_) (fun q => by cases q))
  refine wp_asgs (d := tupN l) (en1 := E v (.own (.lst ds)) .un .un) (e2_of (d := .tuple [tupN l, iD b]) (e := iD 0) rfl rfl rfl) ?_
  obtain ⟨k, v', e', h, hk⟩ := drw h (m := l.length) (i := 0) (en := E v (.own (.lst ds)) .un (.dat (tupN l))) (a := eN fLen (aCons (eVar 8) aNil)) rfl (en1_of (d := tupN l) rfl (fLen_tupN l)) (by omega)
  refine wp_seq (en1 := E v' (.own (.lst ds)) (.dat (iD k)) (.dat (tupN l))) (asg_at e') ?_
  let G : SV → En := fun X => E v' X (.dat (iD k)) (.dat (tupN l))
  let f1 : D → D := fun x => .tuple [.str "answer", .tuple ((l.map iD).take k ++ [x] ++ (l.map iD).drop (k + 1)), iD b]
  let f2 : D → D := fun x => .tuple [.str "answer", tupN l, x]
  let st2 : List D := strg ++ [.int 2, .int (10 ^ 40)]
  have l1 : (strg.map f1).length = 10 := by rw [List.length_map]; rfl
  have l2 : (st2.map f2).length = 12 := by rw [List.length_map]; rfl
  have c1 : eL (lLc (imSeq (eVar 5)) [9] (gmName 9) tmYes (eTup (aCons (eVar 2) (aCons (e2 fAdd (e2 fAdd (eSl (eVar 8) oNone (oSome (eVar 7))) (eTup (aCons (eVar 9) aNil))) (eSl (eVar 8) (oSome (e2 fAdd (eVar 7) (eC (.int 1)))) oNone)) (aCons (e2 fIx (eVar 3) (eC (.int 1))) aNil))))) (G (.dat (.list ds))) = .ok (.list (strg.map f1), G (.dat (.list ds))) :=
    el_of (lc_map (j := 9) (enc := fun x : D => x) (xs := strg) (f := f1) (imS_at (d := .list strg) rfl (by rw [List.map_id']; rfl)) (fun x _ => tp_of (tcons rfl (tcons (addT (addT (slT_hi (ds := l.map iD) rfl rfl) (tp_of (tone rfl)) (by rw [List.length_take, lm]; show _ + 1 ≤ 1000; omega)) (slT_lo (ds := l.map iD) (q := k + 1) rfl (e2_of (d := iD k) (e := iD 1) rfl rfl (fAdd_N _ _))) (by rw [List.length_append, List.length_take, List.length_drop, lm]; show _ + 1 + _ ≤ 1000; omega)) (tone (e2_of (d := .tuple [tupN l, iD b]) (e := iD 1) rfl rfl rfl))))) (Nat.le_of_ble_eq_true rfl) (Nat.le_of_ble_eq_true rfl) rfl)
  let o1 := ds ++ strg.map f1
  have lo1 : 1 ≤ o1.length ∧ o1.length ≤ 25 := by show 1 ≤ (ds ++ strg.map f1).length ∧ (ds ++ strg.map f1).length ≤ 25; rw [List.length_append, l1]; omega
  refine wp_seq (en1 := G (.own (.lst o1))) (addL_at (i := 4) (en1 := G (.dat (.list ds))) rfl c1 (by rw [l1]; omega)) ?_
  have s2 : e2 fAdd (eVar 5) (eL (lLst (aCons (eC (.int 2)) (aCons (e2 fPow (eC (.int 10)) (eC (.int 40))) aNil)))) (G (.dat (.list o1))) = .ok (.list st2, G (.dat (.list o1))) :=
    e2_of (d := .list strg) (e := .list [.int 2, .int (10 ^ 40)]) rfl (ls_of (tcons rfl (tone (by kernel_rfl)))) (by kernel_rfl)
  have c2 : eL (lLc (imSeq (e2 fAdd (eVar 5) (eL (lLst (aCons (eC (.int 2)) (aCons (e2 fPow (eC (.int 10)) (eC (.int 40))) aNil)))))) [9] (gmName 9) tmYes (eTup (aCons (eVar 2) (aCons (eVar 8) (aCons (eVar 9) aNil))))) (G (.dat (.list o1))) = .ok (.list (st2.map f2), G (.dat (.list o1))) :=
    el_of (lc_map (j := 9) (enc := fun x : D => x) (xs := st2) (f := f2) (imS_at (d := .list st2) s2 (by rw [List.map_id']; rfl)) (fun x _ => tp_of (tcons rfl (tcons rfl (tone rfl)))) (Nat.le_of_ble_eq_true rfl) (Nat.le_of_ble_eq_true rfl) rfl)
  let o2 := o1 ++ st2.map f2
  have lo2 : 1 ≤ o2.length ∧ o2.length ≤ 37 := by show 1 ≤ (o1 ++ st2.map f2).length ∧ (o1 ++ st2.map f2).length ≤ 37; rw [List.length_append, l2]; omega
  refine wp_seq (en1 := G (.own (.lst o2))) (addL_at (i := 4) (en1 := G (.dat (.list o1))) rfl c2 (by rw [l2]; omega)) ?_
  have ib : ∀ X, e2 fIx (eVar 3) (eC (.int 1)) (G X) = .ok (iD b, G X) := fun X => e2_of (d := .tuple [tupN l, iD b]) (e := iD 1) rfl rfl rfl
  let A : List D := [.tuple [.str "answer", .tuple [], iD b], .tuple [.str "answer", .list (l.map iD), iD b], .tuple [.str "answer", iD b, tupN l]]
  let o3 := o2 ++ A
  have lo3 : 1 ≤ o3.length ∧ o3.length ≤ 40 := by show 1 ≤ (o2 ++ A).length ∧ (o2 ++ A).length ≤ 40; rw [List.length_append]; show 1 ≤ _ + 3 ∧ _ + 3 ≤ 40; omega
  refine wp_seq (en1 := G (.own (.lst o3))) (addL_at (i := 4) (en1 := G (.dat (.list o2))) (es := A) rfl (ls_of (tcons (tp_of (tcons rfl (tcons rfl (tone (ib _))))) (tcons (tp_of (tcons rfl (tcons (lN_of (tone rfl) rfl) (tone (ib _))))) (tone (tp_of (tcons rfl (tcons (ib _) (tone rfl)))))))) (by show o2.length + 3 ≤ 1000; omega)) ?_
  let B : List D := [.tuple [.str "answer", iD l[0], iD b], .tuple ([.str "answer"] ++ l.map iD ++ [iD b, iD 0])]
  let o4 := o3 ++ B
  have lo4 : 1 ≤ o4.length ∧ o4.length ≤ 42 := by show 1 ≤ (o3 ++ B).length ∧ (o3 ++ B).length ≤ 42; rw [List.length_append]; show 1 ≤ _ + 2 ∧ _ + 2 ≤ 42; omega
  refine ⟨.nx, G (.own (.lst o4)), addL_at (i := 4) (en1 := G (.dat (.list o3))) (es := B) rfl (ls_of (tcons (tp_of (tcons rfl (tcons (e2_of (d := tupN l) (e := iD 0) rfl rfl (fIx_tupN l 0 pos)) (tone (ib _))))) (tone (addT (addT (as := [.str "answer"]) (bs := l.map iD) (tp_of (tone rfl)) rfl (by rw [lm]; show 1 + _ ≤ 1000; omega)) (tp_of (tcons (ib _) (tone rfl))) (by rw [List.length_append, lm]; show 1 + _ + 2 ≤ 1000; omega))))) (by show o3.length + 2 ≤ 1000; omega), ?_⟩
  refine wp_bind (wp_if (x := false) (en1 := G (.own (.lst o4))) (by kernel_rfl) (fun q => by cases q) (fun _ => wp_next ?_))
  refine wp_ret (d := .list o4) (en1 := G (.dat (.list o4))) rfl ⟨o4, v', rfl, rfl, h, fun x hx => ?_, by omega⟩
  have bl : Bt (tupN l) := bt_tupN (by omega)
  rcases List.mem_append.mp hx with hx | hx
  · rcases List.mem_append.mp hx with hx | hx
    · rcases List.mem_append.mp hx with hx | hx
      · rcases List.mem_append.mp hx with hx | hx
        · exact hd x hx
        · obtain ⟨y, hy, rfl⟩ := List.mem_map.mp hx
          obtain ⟨y1, _, y3⟩ := strg_no hy
          refine no_ans (fun es e => ?_) (bt_iD b) (by rw [nums_odd y1]; rfl)
          cases e
          rw [List.length_append, List.length_append, List.length_take, List.length_drop, lm, List.length_singleton]
          omega
      · obtain ⟨y, hy, rfl⟩ := List.mem_map.mp hx
        have hy : bitB y = false ∧ Bt y := by
          rcases List.mem_append.mp hy with hy | hy
          · exact (strg_no hy).2
          · simp only [List.mem_cons, List.not_mem_nil, or_false] at hy
            rcases hy with rfl | rfl
            · exact ⟨by kernel_rfl, fun ds e => by cases e⟩
            · exact ⟨by kernel_rfl, fun ds e => by cases e⟩
        exact no_ans bl hy.2 (by rw [hy.1, Bool.and_false, Bool.and_false])
    · simp only [A, List.mem_cons, List.not_mem_nil, or_false] at hx
      rcases hx with rfl | rfl | rfl
      · exact no_ans (fun es e => by cases e; exact Nat.zero_le _) (bt_iD b) rfl
      · exact no_ans (fun es e => by cases e) (bt_iD b) rfl
      · exact no_ans (bt_iD b) bl rfl
  · simp only [B, List.mem_cons, List.not_mem_nil, or_false] at hx
    rcases hx with rfl | rfl
    · exact no_ans (bt_iD _) (bt_iD b) rfl
    · refine no_rest (r := l.map iD ++ [iD b, iD 0]) W.ok (by rw [List.length_append, lm]; show _ + 2 ≤ 900; omega) (fun y hy => ?_) (W.len (by rw [List.length_append, lm]; show _ + 2 ≠ 2; omega))
      rcases List.mem_append.mp hy with z | z
      · obtain ⟨q, _, rfl⟩ := List.mem_map.mp z
        exact bt_iD q
      · exact bt2 (bt_iD b) (bt_iD 0) y z
end
end K42
end
section
set_option Elab.async false
set_option linter.all false
set_option maxRecDepth 100000
set_option maxHeartbeats 4000000
namespace K42
open PySem PySem.Spec PyProof.Rows L2 Mir
section
variable {xs : List Int} {d e a b x : D} {ds es r : List D} {w : Str} {en en1 en2 : En} {i j k n m : Nat} {z : Bool} {v : Dv} {l ys : List Nat}
/-- every one that `_law_bents` makes of a good event is none -/
theorem law_bents_ok (h : Ok v) (g : Ge d) : ∃ os v', M__law_bents (dr xs v) [d] = .ok (.list os, dr xs v') ∧ Ok v' ∧ (∀ x ∈ os, No x) ∧ 1 ≤ os.length ∧ os.length ≤ 60 := by
  obtain ⟨q, mo', e, os, v', rfl, rfl, q1, q2, q3⟩ := fnD_ex (m := m__law_bents) (n := 10) (k := 2) (mo := dr xs v) (ds := [d]) (P := fun q mo' => ∃ os v', q = .list os ∧ mo' = dr xs v' ∧ Ok v' ∧ (∀ x ∈ os, No x) ∧ 1 ≤ os.length ∧ os.length ≤ 60) rfl (by
    have key : Wp (m__law_bents (enOfS 10 (dr xs v) [d])) (Bts xs) := by
      cases g with
      | lot w l hw asc len =>
        have n1 : ∀ w', tupN l ≠ .str w' := fun w' e => by cases e
        refine bents_pre (r := [tupN l]) (.inl ⟨hw, rfl⟩) (by show 1 ≤ 2; omega) (fun y hy => by rw [List.mem_singleton.mp hy]; exact bt_tupN (by omega)) (no_first (r := []) n1 (bt_tupN (by omega)) (Nat.zero_le _) (fun y hy => by cases hy)) (fun ds hd hl => bents_lot h hw asc len hd hl)
      | ans l b pos len hb =>
        have n1 : ∀ w', tupN l ≠ .str w' := fun w' e => by cases e
        refine bents_pre (r := [tupN l, iD b]) (.inr (.inl ⟨rfl, rfl⟩)) (by show 2 ≤ 2; omega) (bt2 (bt_tupN (by omega)) (bt_iD b)) (no_first (r := [iD b]) n1 (bt_tupN (by omega)) (Nat.le_of_ble_eq_true rfl) (fun y hy => by rw [List.mem_singleton.mp hy]; exact bt_iD b)) (fun ds hd hl => bents_ans h pos len hd hl)
      | two w a b hw =>
        have n1 : ∀ w', iD a ≠ .str w' := fun w' e => by cases e
        refine bents_pre (r := [iD a, iD b]) (.inr (.inr (.inl ⟨hw, rfl⟩))) (by show 2 ≤ 2; omega) (bt2 (bt_iD a) (bt_iD b)) (no_first (r := [iD b]) n1 (bt_iD a) (Nat.le_of_ble_eq_true rfl) (fun y hy => by rw [List.mem_singleton.mp hy]; exact bt_iD b)) (fun ds hd hl => bents_two h hw hd hl)
      | ent => exact bents_pre (r := []) (.inr (.inr (.inr ⟨rfl, rfl⟩))) (Nat.zero_le _) (fun y hy => by cases hy) no_nil (fun ds hd hl => bents_ent h hd hl)
    obtain ⟨fl, en', e, os, v', p1, p2, p3, p4, p5⟩ := key
    exact ⟨fl, en', e, _, _, p1, p2, os, v', rfl, rfl, p3, p4, p5⟩)
  exact ⟨os, v', e, q1, q2, q3⟩
end
end K42
end
section
set_option Elab.async false
set_option linter.all false
set_option maxRecDepth 100000
set_option maxHeartbeats 4000000
namespace K42
open PySem PySem.Spec PyProof.Rows L2 Mir
section
variable {d e a b x g : D} {ds es gs r : List D} {w : Str} {en en1 en2 : En} {l : List Nat}
def headL : D := .tuple [.str "begin", .tuple [.tuple [.int 2, .int 1, .int 3], .tuple [.tuple [.int 0, .int 1], .tuple [.int 2]]], .tuple [.tuple [.int 0, .int 1], .tuple [.int 1, .int 2]], .tuple [.int 0, .int 1, .int 0, .int 1, .int 1, .int 0]]
theorem headL_ok : M__is_beginning [headL] = .ok (.bool true) := by kernel_rfl
theorem beg_good (h : Ge d) : M__is_beginning [d] = .ok (.bool false) := by
  cases h with
  | lot w l hw asc len => rcases hw with rfl | rfl <;> kernel_rfl
  | ans l b pos len hb => kernel_rfl
  | two w a b hw => rcases hw with rfl | rfl | rfl <;> kernel_rfl
  | ent => kernel_rfl
theorem Ge.bt (h : Ge d) : Bt d := by
  obtain ⟨w, r, rfl, _, hl, _⟩ := h.wd
  intro es e
  cases e
  rw [List.length_cons]
  omega
theorem no_goods (hg : Ge g) (h : ∀ x ∈ gs, Ge x) (hl : gs.length ≤ 4) : No (.tuple (g :: gs)) := by
  obtain ⟨w, r, rfl, _, _, _⟩ := hg.wd
  exact no_first (fun w' e => by cases e) hg.bt (by omega) (fun y hy => (h y hy).bt)
theorem law_others_ok (hg : Ge g) (h : ∀ x ∈ gs, Ge x) (hl : gs.length ≤ 4) : M__law_others_by_hand [headL, .tuple (g :: gs)] = .ok (.bool true) := by
  let go : D := .tuple (g :: gs)
  let hd : D := headL
  let T1 : List D := [.tuple [], .list [hd], .list [hd, .tuple [.str "enter"]], hd, .none, .bool true, .str "log", .tuple [hd, hd], .tuple [hd, .tuple []], .tuple [hd, go], .tuple [hd, .none]]
  let T2 : List D := [.tuple [.tuple [.str "enter"], hd], go, .tuple [.list [.str "begin", .tuple [.tuple [.int 2, .int 1, .int 3], .tuple [.tuple [.int 0, .int 1], .tuple [.int 2]]], .tuple [.tuple [.int 0, .int 1], .tuple [.int 1, .int 2]], .tuple [.int 0, .int 1, .int 0, .int 1, .int 1, .int 0]]], .tuple [hd, .list [.str "enter"]], .tuple [hd, .str "enter"], .tuple [hd, .int 0], .tuple [.tuple [hd]]]
  have all : ∀ x ∈ T1 ++ T2, M__law_is_log [x, .bool false] = .ok (.bool true) := by
    intro x hx
    simp only [T1, T2, List.cons_append, List.nil_append, List.mem_cons, List.not_mem_nil, or_false] at hx
    rcases hx with rfl | rfl | rfl | rfl | rfl | rfl | rfl | rfl | rfl | rfl | rfl | rfl | rfl | rfl | rfl | rfl | rfl | rfl
    · kernel_rfl
    · kernel_rfl
    · kernel_rfl
    · kernel_rfl
    · kernel_rfl
    · kernel_rfl
    · kernel_rfl
    · kernel_rfl
    · kernel_rfl
    · have n := no_goods hg h hl
      exact law_is_log_ok (r := [go]) headL_ok (Nat.le_of_ble_eq_true rfl) (fun x hx => by rw [List.mem_singleton.mp hx]; exact n.bd) (by rw [List.all_cons, n.ev]; rfl)
    · kernel_rfl
    · kernel_rfl
    · exact law_is_log_ok (beg_good hg) (by omega) (fun x hx => (h x hx).bd) rfl
    · kernel_rfl
    · kernel_rfl
    · kernel_rfl
    · kernel_rfl
    · kernel_rfl
  refine fn_wp rfl ?_
  let E : SV → SV → En := fun t x => [.dat hd, .dat go, t, x]
  show Wp (m__law_others_by_hand (E .un .un)) _
  refine wp_asgs (en1 := E .un .un) (d := .list T1) (by kernel_rfl) ?_
  refine wp_asgs (en1 := E (.dat (.list T1)) .un) (d := .list (T1 ++ T2)) (by kernel_rfl) ?_
  have := for_allB (p := fun _ => true) (en := E (.dat (.list (T1 ++ T2))) .un) (E := fun v => E (.dat (.list (T1 ++ T2))) v) (xs := T1 ++ T2) (v0 := .un) (gm := gmName 3) (im := imSeq (eVar 2)) (b := mIf (tmNot (tmTru (eCall M__law_is_log (aCons (eVar 3) (aCons (eC (.bool false)) aNil))))) (mRet (eC (.bool false))) mNext) (imS_at (d := .list (T1 ++ T2)) rfl rfl) (fun _ _ => rfl) (fun x hx => by
    refine wp_if (x := false) (en1 := E (.dat (.list (T1 ++ T2))) (.dat x)) (tmNot_b (x := true) (tr_of (call_b (ds := [x, .bool false]) (tcons rfl (tone rfl)) (all x hx)))) (fun q => by cases q) (fun _ => wp_next ⟨fun _ => ⟨rfl, rfl⟩, fun q => by cases q⟩))
  exact this
end
end K42
end
section
set_option Elab.async false
set_option linter.all false
set_option maxRecDepth 100000
set_option maxHeartbeats 4000000
namespace K42
open PySem PySem.Spec PyProof.Rows L2 Mir
section
variable {d e a b x g : D} {ds es gs r : List D} {w : Str} {en en1 en2 : En} {l : List Nat}
theorem for_calm {gm : Gm} {b c : Sm} {im : Im} {E : SV → En} {xs : List D} {v0 : SV} {Q : Fl → En → Prop} (ha : im en = .ok (xs, E v0)) (hg : ∀ x v, gm x (E v) = .ok (E (.dat x)))
    (hb : ∀ x ∈ xs, Wp (b (E (.dat x))) (fun fl en => fl = .nx ∧ en = E (.dat x))) (K : ∀ v, Wp (c (E v)) Q) : Wp (mSeq (mFor im gm b) c en) Q := by
  have key : ∀ (ys : List D), (∀ y ∈ ys, y ∈ xs) → ∀ (v : SV), Wp (forGo gm b ys (E v)) (fun fl en => fl = .nx ∧ ∃ v, en = E v) := by
    intro ys
    induction ys with
    | nil => exact fun _ v => ⟨.nx, E v, rfl, rfl, v, rfl⟩
    | cons x ys ih =>
      intro hys v
      obtain ⟨fl, en1, e1', rfl, rfl⟩ := hb x (hys x (List.mem_cons_self ..))
      obtain ⟨fl2, en2, e2', h⟩ := ih (fun y hy => hys y (List.mem_cons_of_mem _ hy)) (.dat x)
      refine ⟨fl2, en2, ?_, h⟩
      unfold forGo
      rw [hg x v, calm_ok, bind_ok, e1']
      exact e2'
  obtain ⟨fl, en1, e1', rfl, v, rfl⟩ := key xs (fun _ h => h) v0
  exact wp_bind ⟨.nx, E v, by rw [mFor_ap, ha, bind_ok]; exact e1', K v⟩
def val (m : Em) (en : En) : D := match m en with
  | .ok (d, _) => d
  | _ => .none
def noB (x : D) : Bool := match M__is_beginning [x] with
  | .ok (.bool false) => true
  | _ => false
theorem noB_ok (h : noB x = true) : M__is_beginning [x] = .ok (.bool false) := by
  unfold noB at h
  split at h
  · assumption
  · cases h
def hv0 : D := val (e2 fIx (eVar 1) (eC (.int 1))) [.un, .dat headL, .un, .un, .un, .un, .un, .un, .un, .un, .un, .un]
def hv1 : D := val (e2 fIx (eVar 1) (eC (.int 2))) [.un, .dat headL, .un, .un, .dat hv0, .un, .un, .un, .un, .un, .un, .un]
def hv2 : D := val (e2 fIx (eVar 1) (eC (.int 3))) [.un, .dat headL, .un, .un, .dat hv0, .dat hv1, .un, .un, .un, .un, .un, .un]
def hv3 : D := val (eL (lLst (aCons (eL (lN fList (aCons (eVar 4) aNil))) (aCons (eSl (eVar 4) oNone (oSome (eC (.int 1)))) (aCons (e2 fAdd (eVar 4) (eTup (aCons (eTup aNil) aNil))) (aCons (eTup (aCons (eTup aNil) (aCons (eTup (aCons (eTup aNil) aNil)) aNil))) (aCons (eTup (aCons (eTup (aCons (eC (.int 2)) (aCons (eC (.int 1)) (aCons (eC (.bool true)) aNil)))) (aCons (e2 fIx (eVar 4) (eC (.int 1))) aNil))) (aCons (eTup (aCons (eTup (aCons (eC (.int 2)) (aCons (eC (.int 1)) (aCons (eC (.int 0)) aNil)))) (aCons (e2 fIx (eVar 4) (eC (.int 1))) aNil))) aNil)))))))) [.un, .dat headL, .un, .un, .dat hv0, .dat hv1, .dat hv2, .un, .un, .un, .un, .un]
def hv4 : D := val (e2 fAdd (eVar 7) (eL (lLst (aCons (eTup (aCons (eL (lLst (aCons (eC (.int 2)) (aCons (eC (.int 1)) (aCons (eC (.int 3)) aNil))))) (aCons (e2 fIx (eVar 4) (eC (.int 1))) aNil))) (aCons (eTup (aCons (e2 fIx (eVar 4) (eC (.int 0))) (aCons (eTup aNil) aNil))) (aCons (eTup (aCons (e2 fIx (eVar 4) (eC (.int 0))) (aCons (eTup (aCons (eTup (aCons (eC (.int 2)) aNil)) (aCons (eTup (aCons (eC (.int 0)) (aCons (eC (.int 1)) aNil))) aNil))) aNil))) (aCons (eTup (aCons (e2 fIx (eVar 4) (eC (.int 0))) (aCons (eTup (aCons (eTup (aCons (eC (.int 0)) (aCons (eC (.int 1)) aNil))) (aCons (eTup (aCons (eC (.int 1)) aNil)) aNil))) aNil))) aNil))))))) [.un, .dat headL, .un, .un, .dat hv0, .dat hv1, .dat hv2, .dat hv3, .un, .un, .un, .un]
def hv5 : D := val (e2 fAdd (eVar 7) (eL (lLst (aCons (eTup (aCons (e2 fIx (eVar 4) (eC (.int 0))) (aCons (eTup (aCons (eTup (aCons (eC (.int 0)) (aCons (eC (.int 1)) aNil))) (aCons (eTup (aCons (eC (.int 3)) aNil)) aNil))) aNil))) (aCons (eTup (aCons (e2 fIx (eVar 4) (eC (.int 0))) (aCons (eTup (aCons (eTup (aCons (eC (.int 0)) (aCons (eC (.int 1)) aNil))) (aCons (eTup (aCons (eC (.int 0)) (aCons (eC (.int 1)) aNil))) aNil))) aNil))) (aCons (eTup (aCons (e2 fIx (eVar 4) (eC (.int 0))) (aCons (eTup (aCons (eTup aNil) (aCons (eTup (aCons (eC (.int 2)) aNil)) aNil))) aNil))) (aCons (eC .none) aNil))))))) [.un, .dat headL, .un, .un, .dat hv0, .dat hv1, .dat hv2, .dat hv4, .un, .un, .un, .un]
def hv6 : D := val (e2 fAdd (eVar 7) (eL (lLst (aCons (eTup (aCons (e2 fIx (eVar 4) (eC (.int 0))) (aCons (eTup (aCons (eTup (aCons (eC (.int 1)) (aCons (eC (.int 0)) aNil))) (aCons (eTup (aCons (eC (.int 2)) aNil)) aNil))) aNil))) (aCons (eTup (aCons (e2 fIx (eVar 4) (eC (.int 0))) (aCons (eL (lLst (aCons (eTup (aCons (eC (.int 0)) (aCons (eC (.int 1)) aNil))) (aCons (eTup (aCons (eC (.int 2)) aNil)) aNil)))) aNil))) (aCons (eTup (aCons (e2 fIx (eVar 4) (eC (.int 0))) (aCons (eTup (aCons (eTup (aCons (eC (.int 0)) (aCons (eC (.bool true)) aNil))) (aCons (eTup (aCons (eC (.int 2)) aNil)) aNil))) aNil))) (aCons (eC (.str "ground")) aNil))))))) [.un, .dat headL, .un, .un, .dat hv0, .dat hv1, .dat hv2, .dat hv5, .un, .un, .un, .un]
def hv7 : D := val (eL (lLst (aCons (eL (lN fList (aCons (eVar 5) aNil))) (aCons (eTup (aCons (eTup (aCons (eC (.int 1)) (aCons (eC (.int 2)) aNil))) (aCons (eTup (aCons (eC (.int 0)) (aCons (eC (.int 1)) aNil))) aNil))) (aCons (eTup (aCons (eTup (aCons (eC (.int 0)) (aCons (eC (.int 1)) aNil))) (aCons (eTup (aCons (eC (.int 0)) (aCons (eC (.int 1)) aNil))) aNil))) (aCons (eTup (aCons (eTup (aCons (eC (.int 1)) (aCons (eC (.int 0)) aNil))) (aCons (eTup (aCons (eC (.int 1)) (aCons (eC (.int 2)) aNil))) aNil))) (aCons (eTup (aCons (eTup (aCons (eC (.int 0)) (aCons (eC (.int 0)) aNil))) aNil)) (aCons (eTup (aCons (eTup (aCons (eC (.int 0)) (aCons (eC (.int 3)) aNil))) aNil)) (aCons (eTup (aCons (eTup (aCons (eC (.int 0)) (aCons (eC (.int 1)) (aCons (eC (.int 2)) aNil)))) aNil)) (aCons (eTup (aCons (eC (.int 0)) (aCons (eC (.int 1)) aNil))) aNil)))))))))) [.un, .dat headL, .un, .un, .dat hv0, .dat hv1, .dat hv2, .dat hv6, .un, .un, .un, .un]
def hv8 : D := val (e2 fAdd (eVar 8) (eL (lLst (aCons (eTup (aCons (eTup (aCons (eC (.int 0)) (aCons (eC (.bool true)) aNil))) (aCons (eTup (aCons (eC (.int 1)) (aCons (eC (.int 2)) aNil))) aNil))) (aCons (eTup (aCons (eL (lLst (aCons (eC (.int 0)) (aCons (eC (.int 1)) aNil)))) (aCons (eTup (aCons (eC (.int 1)) (aCons (eC (.int 2)) aNil))) aNil))) (aCons (eTup (aCons (eTup (aCons (e1 fNeg (eC (.int 1))) (aCons (eC (.int 1)) aNil))) aNil)) (aCons (eC .none) (aCons (eTup (aCons (eTup (aCons (eC (.int 0)) aNil)) aNil)) (aCons (eTup (aCons (eTup (aCons (eC (.bool false)) (aCons (eC (.int 1)) aNil))) aNil)) aNil))))))))) [.un, .dat headL, .un, .un, .dat hv0, .dat hv1, .dat hv2, .dat hv6, .dat hv7, .un, .un, .un]
def hv9 : D := val (eL (lLst (aCons (eL (lN fList (aCons (eVar 6) aNil))) (aCons (eSl (eVar 6) oNone (oSome (e1 fNeg (eC (.int 1))))) (aCons (e2 fAdd (eVar 6) (eTup (aCons (eC (.int 0)) aNil))) (aCons (eTup aNil) (aCons (eC .none) (aCons (eTup (aCons (eC (.int 0)) (aCons (eC (.int 1)) (aCons (eC (.int 0)) (aCons (eC (.int 1)) (aCons (eC (.int 1)) (aCons (eC (.int 2)) aNil))))))) (aCons (eTup (aCons (eC (.int 0)) (aCons (eC (.int 1)) (aCons (eC (.int 0)) (aCons (eC (.int 1)) (aCons (eC (.int 1)) (aCons (eC (.bool false)) aNil))))))) (aCons (eTup (aCons (eC (.int 0)) (aCons (eC (.int 1)) (aCons (eC (.int 0)) (aCons (eC (.int 1)) (aCons (eC (.int 1)) (aCons (e1 fNeg (eC (.int 1))) aNil))))))) aNil)))))))))) [.un, .dat headL, .un, .un, .dat hv0, .dat hv1, .dat hv2, .dat hv6, .dat hv8, .un, .un, .un]
def hv10 : D := val (e2 fAdd (eVar 9) (eL (lLst (aCons (eTup (aCons (eC (.bool true)) (aCons (eC (.int 1)) (aCons (eC (.int 0)) (aCons (eC (.int 1)) (aCons (eC (.int 1)) (aCons (eC (.int 0)) aNil))))))) (aCons (eTup (aCons (eC (.int 0)) (aCons (eC (.int 1)) (aCons (eC (.int 0)) (aCons (eC (.int 1)) (aCons (eC (.int 1)) (aCons (eC (.str "0")) aNil))))))) (aCons (eTup (aCons (eC (.int 0)) (aCons (eC (.int 1)) (aCons (eC (.int 0)) (aCons (eC (.int 1)) (aCons (eC (.int 1)) (aCons (eC .none) aNil))))))) (aCons (eTup (aCons (eTup (aCons (eC (.int 0)) (aCons (eC (.int 1)) (aCons (eC (.int 0)) (aCons (eC (.int 1)) (aCons (eC (.int 1)) (aCons (eC (.int 0)) aNil))))))) aNil)) (aCons (eC (.str "010110")) aNil)))))))) [.un, .dat headL, .un, .un, .dat hv0, .dat hv1, .dat hv2, .dat hv6, .dat hv8, .dat hv9, .un, .un]
def hv11 : D := val (e2 fAdd (eL (lLc (imSeq (eVar 7)) [11] (gmName 11) tmYes (eTup (aCons (e2 fIx (eVar 1) (eC (.int 0))) (aCons (eVar 11) (aCons (eVar 5) (aCons (eVar 6) aNil))))))) (eL (lLc (imSeq (eVar 8)) [11] (gmName 11) tmYes (eTup (aCons (e2 fIx (eVar 1) (eC (.int 0))) (aCons (eVar 4) (aCons (eVar 11) (aCons (eVar 6) aNil)))))))) [.un, .dat headL, .un, .un, .dat hv0, .dat hv1, .dat hv2, .dat hv6, .dat hv8, .dat hv10, .un, .un]
def hv12 : D := val (e2 fAdd (eVar 10) (eL (lLc (imSeq (eVar 9)) [11] (gmName 11) tmYes (eTup (aCons (e2 fIx (eVar 1) (eC (.int 0))) (aCons (eVar 4) (aCons (eVar 5) (aCons (eVar 11) aNil)))))))) [.un, .dat headL, .un, .un, .dat hv0, .dat hv1, .dat hv2, .dat hv6, .dat hv8, .dat hv10, .dat hv11, .un]
def hv13 : D := val (e2 fAdd (eVar 10) (eL (lLst (aCons (eL (lN fList (aCons (eVar 1) aNil))) (aCons (eSl (eVar 1) (oSome (eC (.int 1))) oNone) (aCons (eSl (eVar 1) oNone (oSome (eC (.int 3)))) (aCons (e2 fAdd (eVar 1) (eTup (aCons (eTup aNil) aNil))) (aCons (eTup (aCons (eC (.str "Begin")) (aCons (eVar 4) (aCons (eVar 5) (aCons (eVar 6) aNil))))) (aCons (eTup (aCons (eC (.str "fear")) (aCons (eTup (aCons (eC (.int 0)) aNil)) aNil))) (aCons (eTup aNil) (aCons (eC .none) aNil))))))))))) [.un, .dat headL, .un, .un, .dat hv0, .dat hv1, .dat hv2, .dat hv6, .dat hv8, .dat hv10, .dat hv12, .un]
def hv14 : D := val (e2 fAdd (eVar 10) (eL (lLst (aCons (eTup (aCons (eC (.str "begin")) (aCons (eVar 5) (aCons (eVar 4) (aCons (eVar 6) aNil))))) (aCons (eTup (aCons (eC (.str "begin")) (aCons (eVar 4) (aCons (eVar 6) (aCons (eVar 5) aNil))))) (aCons (eTup (aCons (eC .none) (aCons (eVar 4) (aCons (eVar 5) (aCons (eVar 6) aNil))))) (aCons (eC (.str "begin")) (aCons (eSl (eVar 1) oNone (oSome (eC (.int 1)))) aNil)))))))) [.un, .dat headL, .un, .un, .dat hv0, .dat hv1, .dat hv2, .dat hv6, .dat hv8, .dat hv10, .dat hv13, .un]
def heads : List D := match hv14 with
  | .list xs => xs
  | _ => []
theorem heads_no : heads.all noB = true := by kernel_rfl
theorem law_log_ok {g0 g1 g2 g3 : D} (h0 : Ge g0) (h1 : Ge g1) (h2 : Ge g2) (h3 : Ge g3) : M__law_log_by_hand [.tuple [g0, g1, g2, g3]] = .ok (.bool true) := by
  let go : D := .tuple [g0, g1, g2, g3]
  have hgs : ∀ x ∈ [g0, g1, g2, g3], Ge x := fun x hx => by
    simp only [List.mem_cons, List.not_mem_nil, or_false] at hx
    rcases hx with rfl | rfl | rfl | rfl <;> assumption
  let L1 : List D := [.tuple [headL], .tuple [headL, g0, g1, g2, g3], .tuple [headL, .tuple [.str "leave", .int 40, .int 9]], .tuple [headL, .tuple [.str "fear", .tuple [.int 0]], .tuple [.str "fear", .tuple [.int 0]]]]
  let L : List D := L1 ++ [.tuple [.tuple [.str "begin", .tuple [.tuple [.int 1], .tuple [.tuple []]], .tuple [], .tuple [.int 0]]], .tuple [.tuple [.str "begin", .tuple [.tuple [.int 1], .tuple [.tuple [.int 0]]], .tuple [], .tuple [.int 1]], .tuple [.str "enter"]]]
  have lt : ∀ x ∈ L, M__law_is_log [x, .bool true] = .ok (.bool true) := by
    intro x hx
    simp only [L, L1, List.cons_append, List.nil_append, List.mem_cons, List.not_mem_nil, or_false] at hx
    rcases hx with rfl | rfl | rfl | rfl | rfl | rfl
    · kernel_rfl
    · exact law_is_log_ok headL_ok (Nat.le_of_ble_eq_true rfl) (fun x hx => (hgs x hx).bd) (by rw [Bool.true_and, List.all_eq_true]; exact fun x hx => (hgs x hx).ev)
    · kernel_rfl
    · kernel_rfl
    · kernel_rfl
    · kernel_rfl
  refine fn_wp rfl ?_
  let E0 : SV → SV → SV → En := fun h t v => [.dat go, h, t, v, .un, .un, .un, .un, .un, .un, .un, .un]
  show Wp (m__law_log_by_hand (E0 .un .un .un)) _
  refine wp_asgs (en1 := E0 .un .un .un) (d := headL) (by kernel_rfl) ?_
  refine wp_asgs (en1 := E0 (.dat headL) .un .un) (d := .list L1) (by kernel_rfl) ?_
  refine wp_asgs (en1 := E0 (.dat headL) (.dat (.list L1)) .un) (d := .list L) (by kernel_rfl) ?_
  refine for_calm (E := fun v => E0 (.dat headL) (.dat (.list L)) v) (xs := L) (v0 := .un) (imS_at (d := .list L) rfl rfl) (fun _ _ => rfl) (fun x hx => wp_if (x := false) (en1 := E0 (.dat headL) (.dat (.list L)) (.dat x)) (tmNot_b (x := true) (tr_of (call_b (ds := [x, .bool true]) (tcons rfl (tone rfl)) (lt x hx)))) (fun q => by cases q) (fun _ => wp_next ⟨rfl, rfl⟩)) (fun v => ?_)
  refine wp_asgs (en1 := [.dat go, .dat headL, .dat (.list L), v, .un, .un, .un, .un, .un, .un, .un, .un]) (d := hv0) (by kernel_rfl) ?_
  refine wp_asgs (en1 := [.dat go, .dat headL, .dat (.list L), v, .dat hv0, .un, .un, .un, .un, .un, .un, .un]) (d := hv1) (by kernel_rfl) ?_
  refine wp_asgs (en1 := [.dat go, .dat headL, .dat (.list L), v, .dat hv0, .dat hv1, .un, .un, .un, .un, .un, .un]) (d := hv2) (by kernel_rfl) ?_
  refine wp_asgs (en1 := [.dat go, .dat headL, .dat (.list L), v, .dat hv0, .dat hv1, .dat hv2, .un, .un, .un, .un, .un]) (d := hv3) (by kernel_rfl) ?_
  refine wp_asgs (en1 := [.dat go, .dat headL, .dat (.list L), v, .dat hv0, .dat hv1, .dat hv2, .dat hv3, .un, .un, .un, .un]) (d := hv4) (by kernel_rfl) ?_
  refine wp_asgs (en1 := [.dat go, .dat headL, .dat (.list L), v, .dat hv0, .dat hv1, .dat hv2, .dat hv4, .un, .un, .un, .un]) (d := hv5) (by kernel_rfl) ?_
  refine wp_asgs (en1 := [.dat go, .dat headL, .dat (.list L), v, .dat hv0, .dat hv1, .dat hv2, .dat hv5, .un, .un, .un, .un]) (d := hv6) (by kernel_rfl) ?_
  refine wp_asgs (en1 := [.dat go, .dat headL, .dat (.list L), v, .dat hv0, .dat hv1, .dat hv2, .dat hv6, .un, .un, .un, .un]) (d := hv7) (by kernel_rfl) ?_
  refine wp_asgs (en1 := [.dat go, .dat headL, .dat (.list L), v, .dat hv0, .dat hv1, .dat hv2, .dat hv6, .dat hv7, .un, .un, .un]) (d := hv8) (by kernel_rfl) ?_
  refine wp_asgs (en1 := [.dat go, .dat headL, .dat (.list L), v, .dat hv0, .dat hv1, .dat hv2, .dat hv6, .dat hv8, .un, .un, .un]) (d := hv9) (by kernel_rfl) ?_
  refine wp_asgs (en1 := [.dat go, .dat headL, .dat (.list L), v, .dat hv0, .dat hv1, .dat hv2, .dat hv6, .dat hv8, .dat hv9, .un, .un]) (d := hv10) (by kernel_rfl) ?_
  refine wp_asgs (en1 := [.dat go, .dat headL, .dat (.list L), v, .dat hv0, .dat hv1, .dat hv2, .dat hv6, .dat hv8, .dat hv10, .un, .un]) (d := hv11) (by kernel_rfl) ?_
  refine wp_asgs (en1 := [.dat go, .dat headL, .dat (.list L), v, .dat hv0, .dat hv1, .dat hv2, .dat hv6, .dat hv8, .dat hv10, .dat hv11, .un]) (d := hv12) (by kernel_rfl) ?_
  refine wp_asgs (en1 := [.dat go, .dat headL, .dat (.list L), v, .dat hv0, .dat hv1, .dat hv2, .dat hv6, .dat hv8, .dat hv10, .dat hv12, .un]) (d := hv13) (by kernel_rfl) ?_
  refine wp_asgs (en1 := [.dat go, .dat headL, .dat (.list L), v, .dat hv0, .dat hv1, .dat hv2, .dat hv6, .dat hv8, .dat hv10, .dat hv13, .un]) (d := hv14) (by kernel_rfl) ?_
  let F : SV → En := fun y => [.dat go, .dat headL, .dat (.list L), v, .dat hv0, .dat hv1, .dat hv2, .dat hv6, .dat hv8, .dat hv10, .dat hv14, y]
  have hh : ∀ x ∈ heads, M__is_beginning [x] = .ok (.bool false) := fun x hx => noB_ok (List.all_eq_true.mp heads_no x hx)
  refine for_calm (E := F) (xs := heads) (v0 := .un) (by kernel_rfl) (fun _ _ => rfl) (fun x hx => wp_if (x := false) (en1 := F (.dat x)) (or_no (tmNot_b (x := true) (tr_of (call_b (ds := [.tuple [x], .bool false]) (tcons (tp_of (tone rfl)) (tone rfl)) (law_is_log_ok (r := []) (hh x hx) (Nat.zero_le _) (fun y hy => by cases hy) rfl)))) (tmNot_b (x := true) (tr_of (call_b (ds := [.tuple ([x] ++ [g0, g1, g2, g3]), .bool false]) (tcons (addT (tp_of (tone rfl)) rfl (Nat.le_of_ble_eq_true rfl)) (tone rfl)) (law_is_log_ok (r := [g0, g1, g2, g3]) (hh x hx) (Nat.le_of_ble_eq_true rfl) (fun y hy => (hgs y hy).bd) rfl))))) (fun q => by cases q) (fun _ => wp_next ⟨rfl, rfl⟩)) (fun y => ?_)
  exact wp_ret (d := .bool true) (en1 := F y) (call_b (ds := [headL, go]) (tcons rfl (tone rfl)) (law_others_ok h0 (fun x hx => hgs x (List.mem_cons_of_mem _ hx)) (Nat.le_of_ble_eq_true rfl))) rfl
end
end K42
end
section
set_option Elab.async false
set_option linter.all false
set_option maxRecDepth 100000
set_option maxHeartbeats 4000000
namespace K42
open PySem PySem.Spec PyProof.Rows L2 Mir
section
variable {x : Nat}
theorem big_digits (h : x < 10 ^ 60) : (dg x).length ≤ 60 := by
  have e : (toString (x : Int)) = String.ofList (Nat.toDigits 10 x) := rfl
  show (Str.ofString (toString (x : Int))).length ≤ 60
  rw [Str.ofString_eq_toList, e, String.toList_ofList]
  have := (Nat.length_toDigits_le_iff (b := 10) (n := x) (k := 60) (by omega) (by omega)).mpr h
  show ((Nat.toDigits 10 x).map _).toArray.size ≤ 60
  rw [List.size_toArray, List.length_map]
  exact this
theorem rp_big (h : x < 10 ^ 60) : Rp 60 0 (iD x) where
  sh := by
    have hx : x < 2 ^ 200 := Nat.lt_of_lt_of_le h (by decide +kernel)
    have : x.log2 < 1920 := Nat.lt_of_lt_of_le (log2_small (i := (x : Int)) (n := 200) (by omega) (by decide)) (by decide)
    simp [PyData.showable, this]
  lay := by simp [PyData.canLay0]
  dep := by simp [PyData.depth]
  len := by rw [shown_iD]; exact big_digits h
  ok := by rw [shown_iD]; exact strOk_of _
end
end K42
end
section
set_option Elab.async false
set_option linter.all false
set_option maxRecDepth 100000
set_option maxHeartbeats 4000000
namespace K42
open PySem PySem.Spec PyProof.Rows L2 Mir
section
variable {xs : List Int} {d e a b : D} {ds es r : List D} {w : Str} {en en1 : En} {i j k n m : Nat} {z : Bool} {v : Dv} {l : List Nat}
theorem law_lot_big (h : Ok v) : ∃ l v', M__law_lot (dr xs v) [] = .ok (tupN l, dr xs v') ∧ Ok v' ∧ l.Pairwise (· < ·) ∧ l.length ≤ 6 ∧ ∀ x ∈ l, x < 10 ^ 60 := by
  obtain ⟨d, mo', e, l, v', rfl, rfl, q1, q2, q3⟩ := fnD_ex (m := m__law_lot) (n := 4) (k := 1) (mo := dr xs v) (ds := []) (P := fun d mo' => ∃ l v', d = tupN l ∧ mo' = dr xs v' ∧ Ok v' ∧ l.Pairwise (· < ·) ∧ l.length ≤ 6 ∧ ∀ x ∈ l, x < 10 ^ 60) rfl (by
    let E0 : Dv → SV → En := fun v v2 => [.own (dr xs v), .own (.lst ([].map iD)), v2, .un]
    show Wp (m__law_lot [.own (dr xs v), .un, .un, .un]) _
    refine wp_seq (en1 := E0 v .un) (asgO_at (en1 := [.own (dr xs v), .un, .un, .un]) (lst_of tnil (Nat.le_of_ble_eq_true rfl))) ?_
    obtain ⟨k, v1, e1', h, _⟩ := drw h (m := 3) (i := 0) (en := E0 v .un) (a := eC (.int 3)) rfl rfl (by decide)
    refine wp_seq (en1 := E0 v1 (.dat (iD k))) (asg_at e1') ?_
    obtain ⟨y, v2, e2', h, _⟩ := drw h (m := 9) (i := 0) (en := E0 v1 (.dat (iD k))) (a := eC (.int 9)) rfl rfl (by decide)
    have key : ∀ k, k ≤ 10 ^ 50 + 2 → Wp (mSeq (mFor (imRng rng1 (aCons (eCallD M__law_draw 0 (aCons (eC (.int 7)) aNil)) aNil)) (gmName 3)
  (mSeq (mApp 1 (eVar 2))
  (mAsg (gmName 2) (e2 fAdd (e2 fAdd (eVar 2) (eC (.int 1))) (e2 fMul (eCallD M__law_draw 0 (aCons (eC (.int 4)) aNil)) (eCallD M__law_draw 0 (aCons (eC (.int 30)) aNil)))))))
  (mRet (eN fTuple (aCons (eVar 1) aNil))) (E0 v2 (.dat (iD k)))) (fun fl en => ∃ d mo', fl = .rt d ∧ pinAt en 0 = some mo' ∧ ∃ l v', d = tupN l ∧ mo' = dr xs v' ∧ Ok v' ∧ l.Pairwise (· < ·) ∧ l.length ≤ 6 ∧ ∀ x ∈ l, x < 10 ^ 60) := by
      intro k hk
      obtain ⟨t, v3, e3', h, ht⟩ := drw h (m := 7) (i := 0) (en := E0 v2 (.dat (iD k))) (a := eC (.int 7)) rfl rfl (by decide)
      refine wp_bind (wp_rng (n := t) (W := Dv × List Nat × Nat × SV) (fun i s => Ok s.1 ∧ s.2.1.Pairwise (· < ·) ∧ s.2.1.length = i ∧ (∀ x ∈ s.2.1, x < s.2.2.1) ∧ s.2.2.1 ≤ 10 ^ 50 + 2 + i * 88) (fun i s => lE xs s.1 s.2.1 s.2.2.1 s.2.2.2) (v3, [], k, .un) ⟨h, List.Pairwise.nil, rfl, (fun _ h => by cases h), by show k ≤ 10 ^ 50 + 2 + 0 * 88; omega⟩ (tone_at e3') (by omega) (fun i s hi hI => ?_) (fun s hI => ?_))
      · obtain ⟨v, l, k, u⟩ := s
        obtain ⟨h, hp, hl, hlt, hkk⟩ := hI
        have hkk : k ≤ 10 ^ 50 + 2 + i * 88 := hkk
        have h : Ok v := h
        have hl : l.length = i := hl
        have hlt : ∀ x ∈ l, x < k := hlt
        refine wp_seq (en1 := lE xs v (l ++ [k]) k (.dat (iD i))) ?_ ?_
        · refine (app_at (i := 1) (m := eVar 2) (en := lE xs v l k (.dat (iD i))) (en1 := lE xs v l k (.dat (iD i))) (ds0 := l.map iD) (ds := l.map iD) (d := iD k) rfl rfl rfl (by rw [List.length_map]; omega)).trans ?_
          show Rs.ok (Fl.nx, ([_, SV.own (.lst (l.map iD ++ [iD k])), _, _] : En)) = Rs.ok (Fl.nx, ([_, SV.own (.lst ((l ++ [k]).map iD)), _, _] : En))
          rw [List.map_append]
          rfl
        · obtain ⟨p, v4, e4, h, hp4⟩ := drw h (m := 4) (i := 0) (en := lE xs v (l ++ [k]) k (.dat (iD i))) (a := eC (.int 4)) rfl rfl (by decide)
          obtain ⟨q, v5, e5, h, hq5⟩ := drw h (m := 30) (i := 0) (en := lE xs v4 (l ++ [k]) k (.dat (iD i))) (a := eC (.int 30)) rfl rfl (by decide)
          refine wp_lap (en1 := lE xs v5 (l ++ [k]) (k + 1 + p * q) (.dat (iD i))) (asg_at (en1 := lE xs v5 (l ++ [k]) k (.dat (iD i))) (e2_at (d := iD (k + 1)) (e := iD (p * q)) (e2_of (d := iD k) (e := iD 1) rfl rfl (fAdd_N _ _)) (e2_at (d := iD p) (e := iD q) e4 e5 (fMul_N (by omega) (by omega))) (fAdd_N _ _))) ⟨(v5, l ++ [k], k + 1 + p * q, .dat (iD i)), rfl, h, ?_, ?_, ?_, ?_⟩
          · exact List.pairwise_append.mpr ⟨hp, List.pairwise_singleton _ _, fun x hx y hy => by rw [List.mem_singleton.mp hy]; exact hlt x hx⟩
          · show (l ++ [k]).length = i + 1
            rw [List.length_append, List.length_singleton, hl]
          · intro x hx
            show x < k + 1 + p * q
            rcases List.mem_append.mp hx with y | y
            · have := hlt x y; omega
            · rw [List.mem_singleton.mp y]; omega
          · show k + 1 + p * q ≤ 10 ^ 50 + 2 + (i + 1) * 88
            have : p * q ≤ 3 * 29 := Nat.mul_le_mul (by omega) (by omega)
            omega
      · obtain ⟨v, l, k, u⟩ := s
        obtain ⟨h, hp, hl, hlt, hkk⟩ := hI
        have hlt : ∀ x ∈ l, x < k := hlt
        have hkk : k ≤ 10 ^ 50 + 2 + t * 88 := hkk
        have hl : l.length = t := hl
        exact wp_ret (d := tupN l) (en1 := [.own (dr xs v), .dat (.list (l.map iD)), .dat (iD k), u]) (eN_at (ds := [.list (l.map iD)]) (tone_at rfl) rfl) ⟨_, _, rfl, rfl, l, v, rfl, rfl, h, hp, by omega, fun x hx => by have := hlt x hx; omega⟩
    refine wp_ifs (x := decide (y = 4)) (en1 := E0 v2 (.dat (iD k))) (b_at (e2_at e2' rfl (fEq_N y 4))) (fun _ => ?_) (fun _ => wp_next (key k (by omega)))
    exact wp_asg (d := iD (k + 10 ^ 50)) (en1 := E0 v2 (.dat (iD k))) (e2_of (d := iD k) (e := iD (10 ^ 50)) rfl pow50 (fAdd_N _ _)) (key (k + 10 ^ 50) (by omega)))
  exact ⟨l, v', e, q1, q2, q3⟩
end
end K42
end
section
set_option Elab.async false
set_option linter.all false
set_option maxRecDepth 100000
set_option maxHeartbeats 4000000
namespace K42
open PySem PySem.Spec PyProof.Rows L2 Mir
section
variable {d x : D} {ds : List D} {n e n' e' : Nat} {l : List Nat}
structure An (n e : Nat) (d : D) : Prop where
  rp : Rp n e d
  bd : Bd d
  st : ∀ w, d = .str w → PyData.strOk w = true
theorem An.mono (h : An n e d) (hn : n ≤ n') (he : e ≤ e') : An n' e' d := ⟨h.rp.mono hn he, h.bd, h.st⟩
theorem bd_other (h : ∀ ds, d ≠ .tuple ds) : Bd d := ⟨fun ds e => absurd e (h ds), fun ds e => absurd e (h ds), fun _ _ e => absurd e (h _)⟩
theorem an_list (h : ∀ x ∈ ds, An n e x) (hl : ds.length ≤ 3) : An (3 * (n + 2) + 3) (e + 1) (.list ds) :=
  ⟨(rp_list fun x hx => (h x hx).rp).mono (Nat.add_le_add_right (Nat.mul_le_mul_right _ hl) 3) (Nat.le_refl _), bd_other (fun _ e => (by cases e)), fun _ e => by cases e⟩
theorem an_tuple (h : ∀ x ∈ ds, An n e x) (hl : ds.length ≤ 3) : An (3 * (n + 2) + 3) (e + 1) (.tuple ds) :=
  ⟨(rp_tuple fun x hx => (h x hx).rp).mono (Nat.add_le_add_right (Nat.mul_le_mul_right _ hl) 3) (Nat.le_refl _), bd_of (by omega) (fun x hx => (h x hx).bd.top) (fun w r e => (h (.str w) (by rw [e]; exact List.mem_cons_self ..)).st w rfl), fun _ e => by cases e⟩
theorem an_iD {x : Nat} (h : x < 10 ^ 60) : An 60 0 (iD x) := ⟨rp_big h, bd_other (fun _ e => (by cases e)), fun _ e => by cases e⟩
theorem an_lot (h : ∀ x ∈ l, x < 10 ^ 60) (hl : l.length ≤ 6) : An 500 1 (tupN l) := by
  have lm : (l.map iD).length = l.length := List.length_map ..
  refine ⟨(rp_tuple (ds := l.map iD) (n := 60) (e := 0) fun x hx => ?_).mono (by rw [lm]; omega) (Nat.le_refl _), bd_of (by rw [lm]; omega) (fun x hx => ?_) (fun w r e => ?_), fun _ e => by cases e⟩
  · obtain ⟨y, hy, rfl⟩ := List.mem_map.mp hx
    exact rp_big (h y hy)
  · obtain ⟨y, _, rfl⟩ := List.mem_map.mp hx
    exact bt_iD y
  · cases l with
    | nil => cases e
    | cons y t => cases e
end
end K42
end
section
set_option Elab.async false
set_option linter.all false
set_option maxRecDepth 100000
set_option maxHeartbeats 4000000
namespace K42
open PySem PySem.Spec PyProof.Rows L2 Mir
section
variable {xs : List Int} {d x : D} {ds : List D} {n e k : Nat} {l : List Nat}
def sz : Nat → Nat
  | 0 => 500
  | k + 1 => 3 * (sz k + 2) + 3
theorem sz_ge : ∀ k, 500 ≤ sz k
  | 0 => Nat.le_refl _
  | k + 1 => by have := sz_ge k; show 500 ≤ 3 * (sz k + 2) + 3; omega
theorem an_word {w : Str} (h : PyData.strOk w = true) (hs : (PyData.str w).showable = true) (hn : (PyData.str w).shown.length ≤ 500) (ho : PyData.strOk (PyData.str w).shown = true) : An 500 1 (.str w) :=
  ⟨⟨hs, by simp [PyData.canLay0, h], by simp [PyData.depth], hn, ho⟩, bd_other (fun _ e => (by cases e)), fun _ e => by cases e; exact h⟩
theorem an_strange : ∀ x ∈ strg, An 500 1 x := by
  intro x hx
  simp only [strg, List.mem_cons, List.not_mem_nil, or_false] at hx
  rcases hx with rfl | rfl | rfl | rfl | rfl | rfl | rfl | rfl | rfl | rfl
  · exact ⟨(rp_bool true).mono (by omega) (by omega), bd_other (fun _ e => (by cases e)), fun _ e => by cases e⟩
  · exact ⟨(rp_bool false).mono (by omega) (by omega), bd_other (fun _ e => (by cases e)), fun _ e => by cases e⟩
  · exact ⟨⟨by kernel_rfl, by kernel_rfl, by decide +kernel, by decide +kernel, by kernel_rfl⟩, bd_other (fun _ e => (by cases e)), fun _ e => by cases e⟩
  · exact an_word (by kernel_rfl) (by kernel_rfl) (by decide +kernel) (by kernel_rfl)
  · exact ⟨rp_none.mono (by omega) (by omega), bd_other (fun _ e => (by cases e)), fun _ e => by cases e⟩
  · exact an_lot (l := [1]) (fun x hx => by rw [List.mem_singleton.mp hx]; decide +kernel) (by decide)
  · exact (an_list (ds := [iD 1]) (n := 60) (e := 0) (fun x hx => by rw [List.mem_singleton.mp hx]; exact an_iD (by decide +kernel)) (by decide)).mono (by omega) (by omega)
  · exact an_lot (l := []) (fun x hx => by cases hx) (by decide)
  · exact an_word (by kernel_rfl) (by kernel_rfl) (by decide +kernel) (by kernel_rfl)
  · exact ⟨⟨by kernel_rfl, by kernel_rfl, by decide +kernel, by decide +kernel, by kernel_rfl⟩, bd_other (fun _ e => (by cases e)), fun _ e => by cases e⟩
theorem an_word8 {w : Str} (h : w = "fear" ∨ w = "calm" ∨ w = "answer" ∨ w = "wire" ∨ w = "unwire" ∨ w = "leave" ∨ w = "enter" ∨ w = "begin") : An 500 1 (.str w) := by
  rcases h with rfl | rfl | rfl | rfl | rfl | rfl | rfl | rfl <;> exact an_word (by kernel_rfl) (by kernel_rfl) (by decide +kernel) (by kernel_rfl)
theorem word_of {m : Em} {E E' : En} (h : m E = .ok (iD k, E')) (hk : k < 8) : ∃ d, e2 fIx (eL (lLst (aCons (eC (.str "fear")) (aCons (eC (.str "calm")) (aCons (eC (.str "answer")) (aCons (eC (.str "wire")) (aCons (eC (.str "unwire")) (aCons (eC (.str "leave")) (aCons (eC (.str "enter")) (aCons (eC (.str "begin")) aNil)))))))))) m E = .ok (d, E') ∧ An 500 1 d := by
  let W : D := .list [.str "fear", .str "calm", .str "answer", .str "wire", .str "unwire", .str "leave", .str "enter", .str "begin"]
  match k, hk, h with
  | 0, _, h => exact ⟨_, e2_at (d := W) (e := iD 0) rfl h rfl, an_word8 (by simp)⟩
  | 1, _, h => exact ⟨_, e2_at (d := W) (e := iD 1) rfl h rfl, an_word8 (by simp)⟩
  | 2, _, h => exact ⟨_, e2_at (d := W) (e := iD 2) rfl h rfl, an_word8 (by simp)⟩
  | 3, _, h => exact ⟨_, e2_at (d := W) (e := iD 3) rfl h rfl, an_word8 (by simp)⟩
  | 4, _, h => exact ⟨_, e2_at (d := W) (e := iD 4) rfl h rfl, an_word8 (by simp)⟩
  | 5, _, h => exact ⟨_, e2_at (d := W) (e := iD 5) rfl h rfl, an_word8 (by simp)⟩
  | 6, _, h => exact ⟨_, e2_at (d := W) (e := iD 6) rfl h rfl, an_word8 (by simp)⟩
  | 7, _, h => exact ⟨_, e2_at (d := W) (e := iD 7) rfl h rfl, an_word8 (by simp)⟩
theorem strg_of {m : Em} {E E' : En} (h : m E = .ok (iD k, E')) (hk : k < 10) : ∃ d, e2 fIx (eCall M__law_strange aNil) m E = .ok (d, E') ∧ An 500 1 d := by
  have hl : k < strg.length := hk
  refine ⟨strg[k], e2_at (d := .list strg) (e := iD k) (call_b (ds := []) rfl strange_ok) h ?_, an_strange _ (List.getElem_mem hl)⟩
  show (match atI strg (k : Int) with
    | some z => Rs.ok z
    | none => .stk) = _
  rw [atI_D strg k hl, List.getD_eq_getElem?_getD, List.getElem?_eq_getElem hl]
  rfl
abbrev nE (xs : List Int) (v : Dv) (p : Nat) (u2 u3 u4 : SV) : En := [.own (dr xs v), .dat (iD p), u2, u3, u4, .un]
theorem any_ok : ∀ (j p : Nat) (v : Dv), p < j → Ok v → ∃ d v', MR__law_any j (dr xs v) [iD p] = .ok (d, dr xs v') ∧ Ok v' ∧ An (sz p) (p + 1) d
  | 0, _, _, h, _ => absurd h (Nat.not_lt_zero _)
  | j + 1, p, v, hj, h => by
    obtain ⟨d, mo', e, v', rfl, q1, q2⟩ := fnD_ex (m := m__law_any (MR__law_any j)) (n := 6) (k := 2) (mo := dr xs v) (ds := [iD p]) (P := fun d mo' => ∃ v', mo' = dr xs v' ∧ Ok v' ∧ An (sz p) (p + 1) d) rfl (by
      show Wp (m__law_any (MR__law_any j) (nE xs v p .un .un .un)) _
      obtain ⟨k, v1, e1', h, hk⟩ := drw h (m := 11) (i := 0) (en := nE xs v p .un .un .un) (a := eC (.int 11)) rfl rfl (by decide)
      let K : SV := .dat (iD k)
      refine wp_seq (en1 := nE xs v1 p K .un .un) (asg_at e1') ?_
      have leaf : ∀ {d : D}, An 500 1 d → An (sz p) (p + 1) d := fun h => h.mono (sz_ge p) (by omega)
      refine wp_bind (wp_if (x := decide (k < 3) && decide (0 < p)) (en1 := nE xs v1 p K .un .un) (tmAnd_b (b_of (e2_of (d := iD k) (e := iD 3) rfl rfl (fLt_N k 3))) fun _ => b_of (e2_of (d := iD p) (e := iD 0) rfl rfl (fGt_N p 0))) (fun q => ?_) (fun _ => wp_next ?_))
      · rw [Bool.and_eq_true, decide_eq_true_iff, decide_eq_true_iff] at q
        obtain ⟨_, hp⟩ := q
        obtain ⟨p, rfl⟩ : ∃ p', p = p' + 1 := ⟨p - 1, by omega⟩
        obtain ⟨s, v2, e2', h, hs⟩ := drw h (m := 4) (i := 0) (en := nE xs v1 (p + 1) K .un .un) (a := eC (.int 4)) rfl rfl (by decide)
        let S : SV := .dat (iD s)
        refine wp_seq (en1 := nE xs v2 (p + 1) K S .un) (asg_at e2') ?_
        obtain ⟨l, v3, e3, hl, hR, h⟩ := lc_run (W := Dv) (j := 5) (im := imRng rng1 (aCons (eVar 3) aNil)) (m := eCallD (MR__law_any j) 0 (aCons (e2 fSub (eVar 1) (eC (.int 1))) aNil)) (enc := iD) (dec := fun d : D => d) (xs := List.range s) (en := nE xs v2 (p + 1) K S .un) (fun v => nE xs v (p + 1) K S .un) (fun _ v => Ok v) (fun d => An (sz p) (p + 1) d) v2 h (imR_at (tone rfl) (by omega)) (fun _ => rfl) (fun i v hi h => by
          obtain ⟨d, v', e, h', hd⟩ := any_ok j p v (by omega) h
          exact ⟨d, v', callD_at (i := 0) (en := (nE xs v (p + 1) K S .un).set 5 (.dat (iD (List.range s)[i]))) (ds := [iD p]) rfl (tone (e2_of (d := iD (p + 1)) (e := iD 1) rfl rfl (fSub_N (by omega)))) e, hd, h'⟩) (by rw [List.length_range]; omega) rfl rfl
        rw [List.length_range] at hl
        rw [List.map_id'] at e3
        have h : Ok v3 := h
        refine wp_seq (en1 := nE xs v3 (p + 1) K S (.dat (.list l))) (asg_at (el_at e3)) ?_
        refine wp_out (x := decide (k = 0)) (en1 := nE xs v3 (p + 1) K S (.dat (.list l))) (en2 := nE xs v3 (p + 1) K S (.dat (.list l))) (d := .list l) (b_of (e2_of (d := iD k) (e := iD 0) rfl rfl (fEq_N k 0))) (fun _ => ⟨rfl, _, _, rfl, rfl, v3, rfl, h, an_list hR (by omega)⟩) (fun _ => ?_)
        exact wp_ret (d := .tuple l) (en1 := nE xs v3 (p + 1) K S (.dat (.list l))) (en1_of (d := .list l) rfl rfl) ⟨_, _, rfl, rfl, v3, rfl, h, an_tuple hR (by omega)⟩
      refine wp_bind (wp_if (x := decide (k = 3)) (en1 := nE xs v1 p K .un .un) (b_of (e2_of (d := iD k) (e := iD 3) rfl rfl (fEq_N k 3))) (fun _ => ?_) (fun _ => wp_next ?_))
      · obtain ⟨s, v2, e2', h, hs⟩ := drw h (m := 8) (i := 0) (en := nE xs v1 p K .un .un) (a := eC (.int 8)) rfl rfl (by decide)
        obtain ⟨d, e3, hd⟩ := word_of e2' hs
        exact wp_ret (d := d) (en1 := nE xs v2 p K .un .un) e3 ⟨_, _, rfl, rfl, v2, rfl, h, leaf hd⟩
      refine wp_bind (wp_if (x := decide (k = 4)) (en1 := nE xs v1 p K .un .un) (b_of (e2_of (d := iD k) (e := iD 4) rfl rfl (fEq_N k 4))) (fun _ => ?_) (fun _ => wp_next ?_))
      · obtain ⟨s, v2, e2', h, hs⟩ := drw h (m := 10) (i := 0) (en := nE xs v1 p K .un .un) (a := eC (.int 10)) rfl rfl (by decide)
        obtain ⟨d, e3, hd⟩ := strg_of e2' hs
        exact wp_ret (d := d) (en1 := nE xs v2 p K .un .un) e3 ⟨_, _, rfl, rfl, v2, rfl, h, leaf hd⟩
      refine wp_bind (wp_if (x := decide (k = 5)) (en1 := nE xs v1 p K .un .un) (b_of (e2_of (d := iD k) (e := iD 5) rfl rfl (fEq_N k 5))) (fun _ => ?_) (fun _ => wp_next ?_))
      · obtain ⟨l, v2, e2', h, _, hl, hx⟩ := law_lot_big (xs := xs) h
        exact wp_ret (d := tupN l) (en1 := nE xs v2 p K .un .un) (callD_at (ds := []) rfl tnil e2') ⟨_, _, rfl, rfl, v2, rfl, h, leaf (an_lot hx hl)⟩
      obtain ⟨s, v2, e2', h, hs⟩ := drw h (m := 4) (i := 0) (en := nE xs v1 p K .un .un) (a := eC (.int 4)) rfl rfl (by decide)
      exact wp_ret (d := iD s) (en1 := nE xs v2 p K .un .un) e2' ⟨_, _, rfl, rfl, v2, rfl, h, leaf ((an_iD (Nat.lt_trans hs (by decide +kernel))).mono (by omega) (by omega))⟩)
    exact ⟨d, v', e, q1, q2⟩
end
end K42
end
section
set_option Elab.async false
set_option linter.all false
set_option maxRecDepth 100000
set_option maxHeartbeats 4000000
namespace K42
open PySem PySem.Spec PyProof.Rows L2 Mir
section
variable {d e x : D} {ds os : List D} {n k c : Nat} {en : En}
theorem imS_L {m : Em} (h : m en = .ok (.list ds, en)) : imSeq m en = .ok (ds, en) := by rw [imSeq_ap, h, bind_ok]; rfl
theorem nt_ok {m : Em} (h : m en = .ok (.bool true, en)) : tmNot (tmTru m) en = .ok (false, en) := tmNot_b (tr_of h)
theorem ixL (h : k < ds.length) : fIx (.list ds) (iD k) = .ok ds[k] := by
  show (match atI ds (k : Int) with
    | some z => Rs.ok z
    | none => .stk) = _
  rw [atI_D ds k h, List.getD_eq_getElem?_getD, List.getElem?_eq_getElem h]
  rfl
theorem four_of {gs : List D} (h : gs.length = 4) : ∃ g0 g1 g2 g3, gs = [g0, g1, g2, g3] := by
  match gs, h with
  | [a, b, c, d], _ => exact ⟨a, b, c, d, rfl⟩
abbrev lw (ns : List Int) (v : Dv) (v2 v3 v4 v5 v6 v7 v8 v9 v10 v11 v12 : SV) : En := [.dat (.list (ns.map PyData.int)), .own (dr ns v), v2, v3, v4, v5, v6, v7, v8, v9, v10, v11, v12]
theorem law_true (ns : List Int) (hl : ns.length ≤ 63) (hb : ∀ z ∈ ns, Builtin.Int.intBits z ≤ 1048576) : M_law [.list (ns.map PyData.int)] = .ok (.bool true) := by
  let v0 : Dv := ⟨0, 0, 1181, 733⟩
  have h : Ok v0 := ⟨by show 1181 < 2 ^ 31; omega, by show 733 < 2 ^ 31; omega⟩
  refine fn_wp rfl ?_
  show Wp (m_law [.dat (.list (ns.map PyData.int)), .un, .un, .un, .un, .un, .un, .un, .un, .un, .un, .un, .un]) _
  refine wp_seq (en1 := lw ns v0 .un .un .un .un .un .un .un .un .un .un .un) (by
    rw [mAsgD_ap, if_neg (by decide), lCall_ap, tone rfl, bind_ok]
    rfl) ?_
  refine wp_no (en1 := lw ns v0 .un .un .un .un .un .un .un .un .un .un .un) (nt_ok (call_b (ds := []) rfl by_hand_ok)) ?_
  let E1 : Dv → En := fun v => lw ns v .un .un .un .un .un .un .un .un .un .un .un
  obtain ⟨gs, v1, e1', hl1, hG, h⟩ := lc_run (W := Dv) (j := 6) (im := imRng rng1 (aCons (eC (.int 4)) aNil)) (m := eCallD M__law_good 1 aNil) (enc := iD) (dec := fun d : D => d) (xs := List.range 4) (en := E1 v0) E1 (fun _ v => Ok v) Ge v0 h (imR_at rfl (by omega)) (fun _ => rfl) (fun i v hi h => by
    obtain ⟨d, v', e, h', g⟩ := law_good_ok (xs := ns) h
    exact ⟨d, v', callD_at (i := 1) (en := (E1 v).set 6 (.dat (iD (List.range 4)[i]))) (ds := []) rfl tnil e, g, h'⟩) (by rw [List.length_range]; omega) rfl rfl
  rw [List.length_range] at hl1
  rw [List.map_id'] at e1'
  have h : Ok v1 := h
  let G : SV := .dat (.list gs)
  refine wp_seq (en1 := lw ns v1 G .un .un .un .un .un .un .un .un .un .un) (asg_at (el_at e1')) ?_
  refine wp_asgs (d := .list []) (en1 := lw ns v1 G .un .un .un .un .un .un .un .un .un .un) (ls_of tnil) ?_
  let E2 : Dv → List D → SV → En := fun v os u => lw ns v G (.dat (.list os)) u .un .un .un .un .un .un .un .un
  refine wp_bind (wp_items (W := Dv × List D × SV) (fun x : D => x) gs (fun i s => Ok s.1 ∧ (∀ x ∈ s.2.1, No x) ∧ i ≤ s.2.1.length ∧ s.2.1.length ≤ 60 * i) (fun i s => E2 s.1 s.2.1 s.2.2) (v1, [], .un) ⟨h, (fun _ h => by cases h), Nat.le_refl _, Nat.le_refl _⟩ (d0 := .list gs) rfl (by rw [List.map_id']; rfl) (fun i s hi hI => ?_) (fun s hI => ?_))
  · obtain ⟨v, os, u⟩ := s
    obtain ⟨h, hn, h1, h2⟩ := hI
    have h : Ok v := h
    have h1 : i ≤ os.length := h1
    have h2 : os.length ≤ 60 * i := h2
    have g := hG _ (List.getElem_mem hi)
    refine ⟨E2 v os (.dat gs[i]), rfl, ?_⟩
    refine wp_no (en1 := E2 v os (.dat gs[i])) (or_no (nt_ok (by rw [call_b (ds := [gs[i]]) (tone rfl) (law_form_ok g.bd), g.ev])) (nt_ok (call_b (ds := [gs[i], .bool true]) (tcons rfl (tone rfl)) (law_told_ok g.bd g.ev)))) ?_
    obtain ⟨os', v', e', h, hn', h1', h2'⟩ := law_bents_ok (xs := ns) h g
    refine wp_lap (en1 := E2 v' (os ++ os') (.dat gs[i])) (asg_at (en1 := E2 v' os (.dat gs[i])) (e2_at (d := .list os) (e := .list os') (en1 := E2 v os (.dat gs[i])) rfl (callD_at (i := 1) (ds := [gs[i]]) rfl (tone rfl) e') (fAdd_list _ _ (by omega)))) ⟨(v', os ++ os', .dat gs[i]), rfl, h, ?_, ?_, ?_⟩
    · intro x hx
      rcases List.mem_append.mp hx with q | q
      · exact hn x q
      · exact hn' x q
    · show i + 1 ≤ (os ++ os').length
      rw [List.length_append]; omega
    · show (os ++ os').length ≤ 60 * (i + 1)
      rw [List.length_append]; omega
  obtain ⟨v2, os, u4⟩ := s
  obtain ⟨h, hn, h1, h2⟩ := hI
  have h : Ok v2 := h
  have hn : ∀ x ∈ os, No x := hn
  have h1 : gs.length ≤ os.length := h1
  have h2 : os.length ≤ 60 * gs.length := h2
  let O : SV := .dat (.list os)
  let E3 : SV → En := fun u5 => lw ns v2 G O u4 u5 .un .un .un .un .un .un .un
  refine for_calm (E := E3) (xs := os) (v0 := .un) (imS_L rfl) (fun _ _ => rfl) (fun x hx => wp_if (x := false) (en1 := E3 (.dat x)) (nt_ok (call_b (ds := [x, .bool false]) (tcons rfl (tone rfl)) (law_told_ok (hn x hx).bd (hn x hx).ev))) (fun q => by cases q) (fun _ => wp_next ⟨rfl, rfl⟩)) (fun u5 => ?_)
  let E4 : Dv → SV → SV → SV → En := fun v u6 u10 u11 => lw ns v G O u4 u5 u6 .un .un .un u10 u11 .un
  refine wp_bind (wp_rng (n := 12) (W := Dv × SV × SV × SV) (fun _ s => Ok s.1) (fun _ s => E4 s.1 s.2.1 s.2.2.1 s.2.2.2) (v2, .un, .un, .un) h (tone rfl) (by omega) (fun i s hi hI => ?_) (fun s hI => ?_))
  · obtain ⟨v, u6, u10, u11⟩ := s
    have h : Ok v := hI
    obtain ⟨d, v', e', h, an⟩ := any_ok (xs := ns) 6 2 v (by omega) h
    have rr := rp_repr an.rp (by decide) (by decide)
    let E5 : SV → SV → En := fun u10 u11 => E4 v' (.dat (iD i)) u10 u11
    refine wp_seq (en1 := E5 (.dat d) u11) (asg_at (en1 := E5 u10 u11) (callD_at (i := 1) (en := E4 v (.dat (iD i)) u10 u11) (ds := [iD 2]) rfl (tone rfl) e')) ?_
    refine wp_seq (en1 := E5 (.dat d) (.dat (.str d.shown))) (asg_at (en1 := E5 (.dat d) u11) (en1_of (d := d) rfl rr)) ?_
    exact wp_if (x := false) (en1 := E5 (.dat d) (.dat (.str d.shown))) (or_no (nt_ok (call_b (ds := [d, .bool (evB d)]) (tcons rfl (tone (call_b (ds := [d]) (tone rfl) (law_form_ok an.bd)))) (law_told_ok an.bd rfl))) (b_of (e2_of (d := .str d.shown) (e := .str d.shown) (en1_of (d := d) rfl rr) rfl (str_same an.rp.ok)))) (fun q => by cases q) (fun _ => wp_next ⟨(v', .dat (iD i), .dat d, .dat (.str d.shown)), rfl, h⟩)
  obtain ⟨v3, u6, u10, u11⟩ := s
  have h : Ok v3 := hI
  refine wp_asgs (d := .tuple gs) (en1 := E4 v3 u6 u10 u11) (en1_of (d := .list gs) rfl rfl) ?_
  let T : SV := .dat (.tuple gs)
  refine wp_asgs (d := head4) (en1 := lw ns v3 G O u4 u5 u6 T .un .un u10 u11 .un) rfl ?_
  let H : SV := .dat head4
  let E6 : Dv → SV → SV → SV → En := fun v u5 u6 u12 => lw ns v G O u4 u5 u6 T H .un u10 u11 u12
  refine wp_bind (wp_rng (n := 6) (W := Dv × SV × SV × SV) (fun _ s => Ok s.1) (fun _ s => E6 s.1 s.2.1 s.2.2.1 s.2.2.2) (v3, u5, u6, .un) h (tone rfl) (by omega) (fun i s hi hI => ?_) (fun s hI => ?_))
  · obtain ⟨v, u5, u6, u12⟩ := s
    have h : Ok v := hI
    let I6 : SV := .dat (iD i)
    obtain ⟨k, v', e1', h, hk⟩ := drw h (m := os.length) (i := 1) (en := E6 v u5 I6 u12) (a := eN fLen (aCons (eVar 3) aNil)) rfl (en1_of (d := .list os) rfl rfl) (by omega) (by omega)
    let o := os[k]
    have ho : No o := hn o (List.getElem_mem hk)
    refine wp_seq (en1 := E6 v' (.dat o) I6 u12) (asg_at (en1 := E6 v' u5 I6 u12) (e2_at (d := .list os) (e := iD k) (en1 := E6 v u5 I6 u12) rfl e1' (ixL hk))) ?_
    obtain ⟨c, v', e2', h, hc⟩ := drw h (m := 5) (i := 1) (en := E6 v' (.dat o) I6 u12) (a := eC (.int 5)) rfl rfl (by decide)
    let E7 := E6 v' (.dat o) I6 (.dat (iD c))
    refine wp_seq (en1 := E7) (asg_at e2') ?_
    have lg : ([head4] : List D).length = 1 := rfl
    have lo : ([o] : List D).length = 1 := rfl
    have ea : e2 fAdd (e2 fAdd (e2 fAdd (eTup (aCons (eVar 8) aNil)) (eSl (eVar 7) oNone (oSome (eVar 12)))) (eTup (aCons (eVar 5) aNil))) (eSl (eVar 7) (oSome (eVar 12)) oNone) E7 = .ok (.tuple (head4 :: (gs.take c ++ [o] ++ gs.drop c)), E7) :=
      addT (as := [head4] ++ gs.take c ++ [o]) (bs := gs.drop c) (addT (as := [head4] ++ gs.take c) (bs := [o]) (addT (as := [head4]) (bs := gs.take c) (tp_of (tone rfl)) (slT_hi rfl rfl) (by rw [lg, List.length_take]; omega)) (tp_of (tone rfl)) (by rw [List.length_append, lg, lo, List.length_take]; omega)) (slT_lo rfl rfl) (by rw [List.length_append, List.length_append, lg, lo, List.length_take, List.length_drop]; omega)
    refine wp_if (x := false) (en1 := E7) (nt_ok (call_b (ds := [.tuple (head4 :: (gs.take c ++ [o] ++ gs.drop c)), .bool false]) (tcons ea (tone rfl)) (law_is_log_ok head4_ok (by rw [List.length_append, List.length_append, lo, List.length_take, List.length_drop]; omega) (fun x hx => ?_) (by rw [List.all_append, List.all_append, List.all_cons, ho.ev, Bool.false_and, Bool.and_false, Bool.false_and, Bool.and_false])))) (fun q => by cases q) (fun _ => wp_next ⟨(v', .dat o, I6, .dat (iD c)), rfl, h⟩)
    rcases List.mem_append.mp hx with hx | hx
    · rcases List.mem_append.mp hx with hx | hx
      · exact (hG x (List.mem_of_mem_take hx)).bd
      · rw [List.mem_singleton.mp hx]; exact ho.bd
    · exact (hG x (List.mem_of_mem_drop hx)).bd
  obtain ⟨v4, u5, u6, u12⟩ := s
  have h : Ok v4 := hI
  obtain ⟨q, v5, e9, h, hq⟩ := drw h (m := 4) (i := 1) (en := E6 v4 u5 u6 u12) (a := eC (.int 4)) rfl rfl (by decide)
  let E8 : En := lw ns v5 G O u4 u5 u6 T H (.dat (iD q)) u10 u11 u12
  refine wp_seq (en1 := E8) (asg_at e9) ?_
  have log : eCall M__law_log_by_hand (aCons (eVar 7) aNil) E8 = .ok (.bool true, E8) := by
    obtain ⟨g0, g1, g2, g3, rfl⟩ := four_of hl1
    exact call_b (ds := [.tuple [g0, g1, g2, g3]]) (tone rfl) (law_log_ok (hG _ (by simp)) (hG _ (by simp)) (hG _ (by simp)) (hG _ (by simp)))
  have rea : eCall M__law_reasons aNil E8 = .ok (.bool true, E8) := call_b (ds := []) rfl reasons_ok
  have ref : eCall M__law_refused aNil E8 = .ok (.bool true, E8) := call_b (ds := []) rfl refused_ok
  refine wp_out (x := decide (ns.length = 0)) (en1 := E8) (en2 := E8) (d := .bool true) (b_of (e2_of (d := iD ns.length) (e := iD 0) (en1_of (d := .list (ns.map PyData.int)) rfl (by show Rs.ok (PyData.int (((ns.map PyData.int).length : Nat) : Int)) = _; rw [List.length_map])) rfl (fEq_N _ 0))) (fun _ => ⟨eAnd_b (x := true) (y := true) log fun _ => eAnd_b (x := true) (y := true) rea fun _ => ref, rfl⟩) (fun _ => ?_)
  refine wp_out (x := decide (q = 0)) (en1 := E8) (en2 := E8) (d := .bool true) (b_of (e2_of (d := iD q) (e := iD 0) rfl rfl (fEq_N q 0))) (fun _ => ⟨log, rfl⟩) (fun _ => ?_)
  refine wp_out (x := decide (q = 1)) (en1 := E8) (en2 := E8) (d := .bool true) (b_of (e2_of (d := iD q) (e := iD 1) rfl rfl (fEq_N q 1))) (fun _ => ⟨rea, rfl⟩) (fun _ => ?_)
  refine wp_out (x := decide (q = 2)) (en1 := E8) (en2 := E8) (d := .bool true) (b_of (e2_of (d := iD q) (e := iD 2) rfl rfl (fEq_N q 2))) (fun _ => ⟨ref, rfl⟩) (fun _ => ?_)
  have lg : ([head4] : List D).length = 1 := rfl
  have ea : e2 fAdd (eTup (aCons (eVar 8) aNil)) (eVar 7) E8 = .ok (.tuple (head4 :: gs), E8) := addT (as := [head4]) (bs := gs) (tp_of (tone rfl)) rfl (by rw [lg]; omega)
  refine wp_ret (d := .bool true) (en1 := E8) (call_b (ds := [.tuple (head4 :: gs), .bool true]) (tcons ea (tone rfl)) (law_is_log_ok head4_ok (by omega) (fun x hx => (hG x hx).bd) ?_)) rfl
  rw [Bool.true_and, List.all_eq_true]
  exact fun x hx => (hG x hx).ev
end
end K42
end
section
set_option Elab.async false
set_option linter.all false
set_option maxRecDepth 100000
set_option maxHeartbeats 0
namespace K42
open PySem PySem.Spec PyProof.Rows L2 Mir
abbrev R : PySem.W.OpenRow := PySem.W.OpenLaw.row PySem.Challenge.rw_closereckoned_k42_events_by_form_and_ref
abbrev lawAt : Nat := 95
abbrev hk : PySem.W.Hook := hookT2 5 faL fnL ysL (tcL.map tabH)
def ob (s : PySem.W.SharedT) : AlT2 := obsNT 5 faL fnL ysL (tcL.map tabH) (HandSHeadRun.getT s)
theorem ob_eq (s : PySem.W.SharedT) : ob s = hk.obs s.abs := obsNT_eq (HandSHeadRun.getT_eq s)
def namesA : List PySem.Str := ["_wall", "ReckonError", "GroundError", "LiveError", "NotUsable", "InvalidEvent", "NothingToUndo", "a_want", "integer_fits", "number_fits", "many_fits", "sizes_fit", "setting_fits", "house_fits", "lot_fits", "is_lots", "fears_fit", "ground_fits", "lot_within", "greatest_in", "feared_in", "blind_in", "is_number", "is_bit", "is_sizes", "is_setting", "is_lot", "is_ground", "wire_fits", "net_fits"]
def namesB : List PySem.Str := (["is_net", "spans_of", "many_settings", "place_by", "is_table", "answer_at", "fixed", "COUNTS", "_are_numbers", "_is_lot_form", "is_event", "_is_beginning", "is_log", "is_feared", "left_in", "left_out", "feared_too", "calmed", "place_in", "place_of", "MOST_HOUSES", "_lot_reason", "pair_of", "_wire_reason", "_leave_reason", "reason_for", "_less", "_without", "state_after", "LiveHouses"] : List PySem.Str) ++ (["_law_feed", "_law_draw", "_law_same", "_law_number", "_law_numbers", "_law_rising", "_law_form", "_law_lot", "_law_good", "_law_strange", "_law_bents", "_law_any", "_law_told", "_law_by_hand", "_law_log_by_hand", "_law_others_by_hand", "_law_is_log", "_law_reasons", "_law_made", "_law_item", "_law_refused"] : List PySem.Str)
def names1 : List PySem.Str := namesA ++ namesB
theorem run_looks_t (w : World) : LooksEq R 8000 (w.withFollow "special-get-raises" true) := fun os => by kernel_rfl
theorem run_looks_f (w : World) : LooksEq R 8000 (w.withFollow "special-get-raises" false) := fun os => by kernel_rfl
theorem run_looks (w : World) : LooksEq R 8000 w := by
  have key : ∀ b : Bool, LooksEq R 8000 (w.withFollow "special-get-raises" b) := fun b => by cases b with
    | true => exact run_looks_t w
    | false => exact run_looks_f w
  have h := key (w.params.followText "special-get-raises")
  rwa [World.withFollow_self] at h
theorem run_seen_t (w : World) : SeenEq R (PySem.W.view R.prog [lawAt]) 8000 names1 (w.withFollow "special-get-raises" true) := fun os => by kernel_rfl
theorem run_seen_f (w : World) : SeenEq R (PySem.W.view R.prog [lawAt]) 8000 names1 (w.withFollow "special-get-raises" false) := fun os => by kernel_rfl
theorem run_seen (w : World) : SeenEq R (PySem.W.view R.prog [lawAt]) 8000 names1 w := by
  have key : ∀ b : Bool, SeenEq R (PySem.W.view R.prog [lawAt]) 8000 names1 (w.withFollow "special-get-raises" b) := fun b => by cases b with
    | true => exact run_seen_t w
    | false => exact run_seen_f w
  have h := key (w.params.followText "special-get-raises")
  rwa [World.withFollow_self] at h
theorem run_obs_t (w : World) : ObsEq R hk ob 8000 (w.withFollow "special-get-raises" true) := fun os => by kernel_rfl
theorem run_obs_f (w : World) : ObsEq R hk ob 8000 (w.withFollow "special-get-raises" false) := fun os => by kernel_rfl
theorem run_obs (w : World) : ObsEq R hk ob 8000 w := by
  have key : ∀ b : Bool, ObsEq R hk ob 8000 (w.withFollow "special-get-raises" b) := fun b => by cases b with
    | true => exact run_obs_t w
    | false => exact run_obs_f w
  have h := key (w.params.followText "special-get-raises")
  rwa [World.withFollow_self] at h
theorem run (w : World) : HandSHeadRun.RunEq R (PySem.W.view R.prog [lawAt]) hk ob 8000 names1 w := runEq_of (run_looks w) (run_seen w) (run_obs w)
theorem facts {P : Program} {w : World} {K : PySem.W.Frag} {h : Heap} {mg : Str → Option Value} {f : Addr} (X : K.In h) (G : h.Ns mainGlobals mg) (hfa : mg ("law" : Str) = some (.ref f)) (c : SaysT2 faL fnL ysL (tcL.map tabH) w K) :
    ∃ fd : FuncData, (∀ (s : Shared) (u : Value), BindsTo s fd ⟨[u], []⟩ [(("_law_script" : Str), u)]) ∧ ∀ base : Heap, K.In base → base.Ns mainGlobals mg → FnG P w K mg base (CxK.cx P w) 14 f fd [("_law_script" : Str)] (spP K mg M_law) := by
  have T : TX K mg := tx_of X G c.d
  haveI : GG K mg w := gx_of X G c ic_mem str_mem tc_mem
  obtain ⟨⟨fd, F, _, _⟩, glo⟩ := cal_law (P := P) (w := w) (base := h) T
  have e := hfa.symm.trans glo
  injection e with e
  injection e with e
  subst e
  have b := FunD.bindsA (ps := [("_law_script" : Str)]) F fun _ _ _ _ _ _ us hl => match us, hl with | [_], _ => rfl
  refine ⟨fd, fun s u => b s [u] rfl, fun base _ _ => ?_⟩
  obtain ⟨⟨fd2, F2, Fn, _⟩, _⟩ := cal_law (P := P) (w := w) (base := base) T
  have e2 : fd2 = fd := by
    obtain ⟨_, _, _, _, _, _, _, _, _, _, _, l1, _⟩ := F.ex
    obtain ⟨_, _, _, _, _, _, _, _, _, _, _, l2, _⟩ := F2.ex
    rw [l1] at l2
    cases l2
    rfl
  rw [← e2]
  exact Fn
end K42
open PySem PySem.W PySem.Calls PyProof.Rows
theorem PySem.Challenge.cw_closereckoned_k42_events_by_form_and_ref_holds : PySem.Challenge.rw_closereckoned_k42_events_by_form_and_ref.Holds := by
  w_on; o_law
  refine HandSHeadRun.head_any (r := OpenLaw.row PySem.Challenge.rw_closereckoned_k42_events_by_form_and_ref) (q := view (OpenLaw.row PySem.Challenge.rw_closereckoned_k42_events_by_form_and_ref).prog [K42.lawAt]) (H := K42.hk) (ob := K42.ob) (M := 8000) (loose := K42.names1) (d := HandSHeadRun.topDef (OpenLaw.row PySem.Challenge.rw_closereckoned_k42_events_by_form_and_ref).prog K42.lawAt) (kwd := []) K42.ob_eq
    (by kernel_rfl) (fun s => by kernel_rfl) K42.run (by kernel_rfl) (by kernel_rfl) (by kernel_rfl) (by rfl) (by first | assumption | decide +kernel) (by decide +kernel) ⟨rfl, rfl, rfl, rfl, rfl, by decide +kernel⟩ ?hw ?hc
  case hw => w_witness2
  case hc =>
    refine Mir.walk_ofG (l := PySem.Challenge.rw_closereckoned_k42_events_by_form_and_ref) (n := 63) (k := 14) (x := "_law_script") rfl (by decide) (by kernel_rfl) ⟨rfl, by decide, by decide⟩ ?F
    intro w mg fa h Y G hmg0
    obtain ⟨K, KX, c⟩ := Y
    have hmg : mg ("law" : PySem.Str) = some (.ref fa) := by
      have e : (HandSHeadRun.topDef (OpenLaw.row PySem.Challenge.rw_closereckoned_k42_events_by_form_and_ref).prog K42.lawAt).name = ("law" : PySem.Str) := by kernel_rfl
      rw [← e]
      exact hmg0
    obtain ⟨fd, hb, hF⟩ := K42.facts (P := (PySem.Challenge.rw_closereckoned_k42_events_by_form_and_ref).prog) (w := w) KX G hmg c
    refine ⟨K, fd, Mir.spP K mg K42.M_law, KX, hb, fun H a ns hl hbits hS => ⟨H, [.list (ns.map PyData.int)], L2.Same.refl _, .cons (.lst hS (Mir.dpa_of_ints ns)) .nil, ?_⟩, hF⟩
    rw [K42.law_true ns hl hbits]
    intro v G' H' f hd
    cases hd
    rfl
end
