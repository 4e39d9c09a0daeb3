import PyProof.Rows.All
import Wide.All
import OpenK.AllK
import Wide.FinOn
import HandS.ForMost
import HandS.ForExc
import HandS.ExcInit
import HandS.HeadHook1
import HandS.Strs
import KE.DataEq
import KE.KeyNested
import HandS.Lambda
import HandS.CallSlots
import HandS.Defaults
import HandS.EndBits
import HandS.HeadHook2
import KE.DataCmp
import HandS.TupAny
import HandS.Deep
import HandS.IsInst
import HandS.Wide
import HandS.WideBits
import HandS.Conv
import HandS.TupLe
import HandS.RaiseMore
import KE.SortCalls
import PyProof.ReprRoads
import KE.SortData
import HandS.ExcField
import HandS.Exc
import HandS.ExcOwn
import HandS.Dict
import HandS.Small
import KE.KStateDown
import HandS.Base
import HandS.Call
import HandS.Ends
import HandS.More
import HandS.Words
import HandS.WordsExc
import HandS.Head0
import HandS.Head1
import HandS.Head2
import HandS.HeadEnd
import HandS.Style
import HandS.Zip
import KE.LtData
import PyProof.Fits
import KE.GoesMore
import KE.GoesZip
import KE.KIsAll
import KE.KTryMore
import HandS.ExcIs
import HandS.TupSets
import HandS.SortInts
import HandS.SetFor
import HandS.Set
import HandS.SetBool
import KE.KTupSum
import HandS.Rev
import HandS.TupMul
import PyProof.AutoSeq1
import KE.KDictDisplayH
import KE.KDictCopyH
import KE.KDictList
import HandS.ExcCtx
import HandS.HotCalls
import HandS.ExcInitHot
import KE.KOpsOwn
import KE.DataFind
import HandS.Property
import PyProof.CompFree
import HandS.EndTab
import PySem.Challenge.RW_closereckoned_k24_whole_pieces_and_produ
import KE.GoesEnum
import HandS.RevRange
section
set_option Elab.async false
set_option linter.all false
set_option maxRecDepth 100000
set_option maxHeartbeats 4000000
namespace Mir
open PySem PySem.Spec PyProof.Rows L2
abbrev D := PyData
/-- what is known of a class whose instances stand in data -/
structure InsOk (K : PySem.W.Frag) (C : Addr) : Prop where
  cl : Cls K C
  ha : PySem.W.findIn K (.ref C) "__class__" = some (some (.builtin "object.__class__"))
  hn : PySem.W.specialIn K (.builtin "object.__class__") "__get__" = some (some (.builtin "getset_descriptor.__get__"))
  htk : PySem.W.takesIn K (.builtin "object.__class__") = some true
  hm : PySem.W.mroIn K C (.type "object") = some true
  kit : ∀ t ∈ ["int", "bool", "tuple", "list", "str"], PySem.W.kitOne K (.ref C) (.type t) = some false
/-- views: tuples of tuples of naturals -/
abbrev Vw := List (List Nat)
def vwD (k : Vw) : PyData := .tuple (k.map fun x => .tuple (x.map fun n : Nat => .int (n : Int)))
def nkN (k : List Nat) : NestedKey := .tup (k.map fun n : Nat => .num (n : Int))
def nkV (v : Vw) : NestedKey := .tup (v.map nkN)
/-- an entry of a dict with views for keys -/
abbrev XV := Vw × Addr × Value
def hV (v : Vw) : Int := reduceHash (Builtin.Tuple.tupleHashOf (v.map fun k => reduceHash (Builtin.Tuple.tupleHashOf (k.map fun n : Nat => hashInt (n : Int)))))
def entV (x : XV) : DictEntry := ⟨hV x.1, .ref x.2.1, x.2.2⟩
def DVO (p : Addr) (xs : List XV) : HO := .ext fun h => (p == sysModules) = false ∧ xs.length ≤ sizeLine ∧
  ∃ o es ep, h.get? p = some o ∧ o.ExactDict ∧ o.data = .dict es ep ∧ es.toList = xs.map entV ∧ (xs.map (·.1)).Nodup
mutual
/-- data in the heap; an instance of the module's class c stands as a dict with c ahead -/
inductive Dp (K : PySem.W.Frag) (H : Hp) : V → PyData → Prop
  | non : Dp K H .non .none
  | bl (b : Bool) : Dp K H (.bl b) (.bool b)
  | int (i : Int) : Dp K H (.int i) (.int i)
  | str (x : Str) : Dp K H (.str x) (.str x)
  | lst {a : Addr} {xs : List V} {ds : List PyData} : SqL K H a xs → DpAll K H xs ds → Dp K H (.ref a) (.list ds)
  | tup {a : Addr} {xs : List V} {ds : List PyData} : SqT K H a xs → DpAll K H xs ds → Dp K H (.ref a) (.tuple ds)
  | ins {c : Str} {a dx : Addr} {fs : List (Str × V)} {kvs : List (PyData × PyData)} : H a = some (.ins (He.ga K c) dx fs) → InsOk K (He.ga K c) → DpKv K H fs kvs → Dp K H (.ref a) (.dict ((.str c, .none) :: kvs))
  | dk {a : Addr} {vs : List (Key × V)} {kvs : List (PyData × PyData)} : H a = some (.dK vs) → DpKi K H vs kvs → Dp K H (.ref a) (.dict ((.none, .none) :: kvs))
  | dv {a : Addr} {xs : List XV} {kvs : List (PyData × PyData)} : H a = some (DVO a xs) → (xs.map (·.1)).Nodup → DpVi K H xs kvs → Dp K H (.ref a) (.dict ((.none, .bool true) :: kvs))
inductive DpAll (K : PySem.W.Frag) (H : Hp) : List V → List PyData → Prop
  | nil : DpAll K H [] []
  | cons {v : V} {vs : List V} {d : PyData} {ds : List PyData} : Dp K H v d → DpAll K H vs ds → DpAll K H (v :: vs) (d :: ds)
inductive DpKv (K : PySem.W.Frag) (H : Hp) : List (Str × V) → List (PyData × PyData) → Prop
  | nil : DpKv K H [] []
  | cons {f : Str} {v : V} {fs : List (Str × V)} {d : PyData} {kvs : List (PyData × PyData)} : Dp K H v d → DpKv K H fs kvs → DpKv K H ((f, v) :: fs) ((.str f, d) :: kvs)
/-- a dict with ints for keys, changed no more -/
inductive DpKi (K : PySem.W.Frag) (H : Hp) : List (Key × V) → List (PyData × PyData) → Prop
  | nil : DpKi K H [] []
  | cons {i : Int} {v : V} {vs : List (Key × V)} {d : PyData} {kvs : List (PyData × PyData)} : Dp K H v d → DpKi K H vs kvs → DpKi K H ((.inl i, v) :: vs) ((.int i, d) :: kvs)
/-- a dict with views for keys, changed no more -/
inductive DpVi (K : PySem.W.Frag) (H : Hp) : List XV → List (PyData × PyData) → Prop
  | nil : DpVi K H [] []
  | cons {k : Vw} {b : Addr} {u : Value} {v : V} {xs : List XV} {d : PyData} {kvs : List (PyData × PyData)} : Dp K H (.ref b) (vwD k) → RelV v u → Dp K H v d → DpVi K H xs kvs → DpVi K H ((k, b, u) :: xs) ((vwD k, d) :: kvs)
end
section
variable {X : Cx} {pins : List (Addr × Obj)} {σ : L2.St} {H : Hp} {s : Shared}
mutual
/-- data without instances are the library's -/
theorem Dp.toL {K : PySem.W.Frag} {H : Hp} : ∀ (d : PyData) (v : V), PyData.plain d = true → Dp K H v d → L2.Dp K H v d
  | .none, _, _, h => by cases h; exact .non
  | .bool b, _, _, h => by cases h; exact .bl b
  | .int i, _, _, h => by cases h; exact .int i
  | .str x, _, _, h => by cases h; exact .str x
  | .list ds, _, p, h => by
    cases h with
    | lst hs ha => exact .lst hs (Dp.toLs ds _ (by simpa [PyData.plain] using p) ha)
  | .tuple ds, _, p, h => by
    cases h with
    | tup hs ha => exact .tup hs (Dp.toLs ds _ (by simpa [PyData.plain] using p) ha)
  | .dict _, _, p, _ => by simp [PyData.plain] at p
theorem Dp.toLs {K : PySem.W.Frag} {H : Hp} : ∀ (ds : List PyData) (vs : List V), PyData.plainAll ds = true → DpAll K H vs ds → L2.DpAll K H vs ds
  | [], _, _, h => by cases h; exact .nil
  | d :: ds, _, p, h => by
    have p' : PyData.plain d = true ∧ PyData.plainAll ds = true := by simpa [PyData.plainAll] using p
    cases h with
    | cons h1 h2 => exact .cons (Dp.toL d _ p'.1 h1) (Dp.toLs ds _ p'.2 h2)
end
theorem Dp.reads (I : Inv X pins σ H s) (d : PyData) (v : V) (u : Value) (h : Dp X.K H v d) (r : RelV v u) (p : PyData.plain d = true) : ∃ as, Reads s.heap u d as := L2.Dp.reads I d v u (Dp.toL d v p h) r
end
/-- an answer, an error of the program's own (class, fields, the last one stored first), or nothing is said -/
inductive Rs (A : Type) where
  | ok (a : A)
  | err (c : Str) (fs : List (Str × D))
  | stk
/-- what a def owns and may change: a list; the source of draws -/
inductive MO where
  | lst (ds : List D)
  | src (cells : List Int) (turn : Int)
  /-- a list that was handed in, or is handed on -/
  | dl (ds : List D)
  /-- a dict with ints for keys -/
  | dk (kvs : List (Int × D))
  /-- a dict with tuples of ints for keys -/
  | dt (kvs : List (List Int × D))
  /-- .. views -/
  | dv (kvs : List (Vw × D))
  /-- a list of lists, all its own -/
  | ll (ess : List (List D))
  /-- .. handed in as the second argument -/
  | bl (ess : List (List D))
  /-- an instance that is being made: its class, its fields -/
  | iv (c : Str) (kvs : List (D × D))
  /-- a set of ints -/
  | st (w : World) (ns : List Int)
  /-- a range -/
  | rg (lo hi : Int)
  /-- a list that was handed in, and the tables of the code objects of lambdas -/
  | tl (ds : List D)
  /-- the law's script, and these tables -/
  | scr (ds : List D)
/-- what a def may change for its caller -/
def MO.pin : MO → Bool
  | .lst _ => false
  | .ll _ => false
  | .st _ _ => false
  | .rg _ _ => false
  | .scr _ => false
  | _ => true
/-- the slots at which it may stand so -/
def MO.pin1 : MO → Bool
  | .bl _ => true
  | _ => false
def MO.pinS (mo : MO) (i : Nat) : Prop := (i = 0 ∧ mo.pin = true) ∨ (i = 1 ∧ mo.pin1 = true)
theorem MO.pinS_0 {mo : MO} (h : mo.pin = true) : mo.pinS 0 := .inl ⟨rfl, h⟩
theorem MO.pin_1 {mo : MO} (h : mo.pin1 = true) : mo.pin = true := by
  cases mo with
  | bl ess => rfl
  | lst ds => cases h
  | src c t => cases h
  | dl ds => cases h
  | dk kvs => cases h
  | dt kvs => cases h
  | dv kvs => cases h
  | ll ess => cases h
  | iv c kvs => cases h
  | st w ns => cases h
  | rg lo hi => cases h
  | tl ds => cases h
  | scr ds => cases h
theorem MO.pinS_p {mo : MO} {i : Nat} (h : mo.pinS i) : mo.pin = true := h.elim (fun h => h.2) fun h => MO.pin_1 h.2
inductive SV where
  | un
  | dat (d : D)
  | own (o : MO)
abbrev En := List SV
inductive Fl where
  | nx | bk | ct
  | rt (d : D)
abbrev Em := En → Rs (D × En)
abbrev Tm := En → Rs (Bool × En)
abbrev Am := En → Rs (List D × En)
abbrev Im := En → Rs (List D × En)
abbrev Gm := D → En → Rs En
abbrev Sm := En → Rs (Fl × En)
section
variable {K : PySem.W.Frag} {G G' : Hp}
theorem seqT_mono {a : Addr} {xs : List V} (e : Same G G') (h : SqT K G a xs) : SqT K G' a xs := by
  rcases h with (h | ⟨o, h⟩) | h
  · exact .inl (.inl (e _ _ h))
  · exact .inl (.inr ⟨o, e _ _ h⟩)
  · exact .inr h
theorem dp_mono (e : Same G G') : ∀ (d : D) (v : V), Dp K G v d → Dp K G' v d := fun d v h =>
  Dp.rec (motive_1 := fun v d _ => Dp K G' v d) (motive_2 := fun vs ds _ => DpAll K G' vs ds) (motive_3 := fun fs kvs _ => DpKv K G' fs kvs) (motive_4 := fun vs kvs _ => DpKi K G' vs kvs) (motive_5 := fun xs kvs _ => DpVi K G' xs kvs)
    .non .bl .int .str (fun hs _ ha => .lst (e.seq hs) ha) (fun hs _ ha => .tup (seqT_mono e hs) ha) (fun ha hk _ hv => .ins (e _ _ ha) hk hv) (fun ha _ hv => .dk (e _ _ ha) hv) (fun ha nd _ hv => .dv (e _ _ ha) nd hv)
    .nil (fun _ _ h1 h2 => .cons h1 h2) .nil (fun _ _ h1 h2 => .cons h1 h2) .nil (fun _ _ h1 h2 => .cons h1 h2) .nil (fun _ r _ _ h1 h2 h3 => .cons h1 r h2 h3) h
theorem dpa_mono (e : Same G G') : ∀ (ds : List D) (vs : List V), DpAll K G vs ds → DpAll K G' vs ds
  | [], _, h => by cases h; exact .nil
  | d :: ds, _, h => by
    cases h with
    | cons h1 h2 => exact .cons (dp_mono e d _ h1) (dpa_mono e ds _ h2)
theorem dpk_mono (e : Same G G') : ∀ {fs : List (Str × V)} {kvs : List (D × D)}, DpKv K G fs kvs → DpKv K G' fs kvs
  | _, _, .nil => .nil
  | _, _, .cons h t => .cons (dp_mono e _ _ h) (dpk_mono e t)
theorem dpa_len : ∀ {vs : List V} {ds : List D}, DpAll K G vs ds → vs.length = ds.length
  | _, _, .nil => rfl
  | _, _, .cons _ t => by rw [List.length_cons, List.length_cons, dpa_len t]
theorem dpa_get : ∀ {vs : List V} {ds : List D} {i : Nat} {d : D}, DpAll K G vs ds → ds[i]? = some d → ∃ v, vs[i]? = some v ∧ Dp K G v d
  | _, _, _, _, .nil, e => by simp at e
  | _, _, 0, _, .cons h _, e => by simp at e; subst e; exact ⟨_, rfl, h⟩
  | _, _, i + 1, d, .cons _ t, e => by
    obtain ⟨v, h1, h2⟩ := dpa_get (i := i) (d := d) t (by simpa using e)
    exact ⟨v, by simpa using h1, h2⟩
theorem dpa_app : ∀ {vs ws : List V} {ds es : List D}, DpAll K G vs ds → DpAll K G ws es → DpAll K G (vs ++ ws) (ds ++ es)
  | _, _, _, _, .nil, h => h
  | _, _, _, _, .cons a t, h => .cons a (dpa_app t h)
theorem dpa_one {v : V} {d : D} (h : Dp K G v d) : DpAll K G [v] [d] := .cons h .nil
theorem dpa_set : ∀ {vs : List V} {ds : List D} {v : V} {d : D} (i : Nat), DpAll K G vs ds → Dp K G v d → DpAll K G (vs.set i v) (ds.set i d)
  | _, _, _, _, _, .nil, _ => .nil
  | _, _, _, _, 0, .cons _ t, h => .cons h t
  | _, _, _, _, i + 1, .cons a t, h => .cons a (dpa_set i t h)
theorem dpa_ints : ∀ {vs : List V} {ns : List Int}, DpAll K G vs (ns.map PyData.int) → vs = ns.map V.int
  | vs, [], h => by cases h; rfl
  | vs, n :: ns, h => by
    cases h with
    | cons a t => cases a; rw [dpa_ints t]; rfl
theorem dpa_of_ints : ∀ (ns : List Int), DpAll K G (ns.map V.int) (ns.map PyData.int)
  | [] => .nil
  | n :: ns => .cons (.int n) (dpa_of_ints ns)
theorem dpa_bools : ∀ {vs : List V} {bs : List Bool}, DpAll K G vs (bs.map PyData.bool) → vs = bs.map V.bl
  | vs, [], h => by cases h; rfl
  | vs, n :: ns, h => by
    cases h with
    | cons a t => cases a; rw [dpa_bools t]; rfl
theorem same_upd {H : Hp} {p : Addr} {o : HO} (h : H p = none) : Same H (upd H p o) := fun b x e => by
  rw [upd_ne (ne_of_none e h)]
  exact e
end
structure Fm where
  G0 : Hp
  H0 : Hp
  Z : Addr → Prop
  p0 : Nat → V
  as0 : Nat → List Addr
def KvAll (K : PySem.W.Frag) (G : Hp) (vs : List (Key × V)) (kvs : List (Int × D)) : Prop := Paired (fun p q => p.1 = Sum.inl q.1 ∧ Dp K G p.2 q.2) vs kvs
/-- a dict's entry, its key a tuple of ints -/
def EK (x : List Int × Addr × Value) : DictEntry := ⟨reduceHash (Builtin.Tuple.tupleHashOf (x.1.map hashInt)), .ref x.2.1, x.2.2⟩
/-- a dict with tuples of ints for keys -/
def DTO (p : Addr) (xs : List (List Int × Addr × Value)) : HO := .ext fun h => (p == sysModules) = false ∧ xs.length ≤ sizeLine ∧
  ∃ o es ep, h.get? p = some o ∧ o.ExactDict ∧ o.data = .dict es ep ∧ es.toList = xs.map EK ∧ (xs.map (·.1)).Nodup
def TvAll (K : PySem.W.Frag) (G : Hp) (xs : List (List Int × Addr × Value)) (kvs : List (List Int × D)) : Prop :=
  Paired (fun p q => p.1 = q.1 ∧ SqT K G p.2.1 (p.1.map V.int) ∧ ∃ v, RelV v p.2.2 ∧ Dp K G v q.2) xs kvs
def TvV (K : PySem.W.Frag) (G : Hp) (xs : List XV) (kvs : List (Vw × D)) : Prop :=
  Paired (fun p q => p.1 = q.1 ∧ Dp K G (.ref p.2.1) (vwD p.1) ∧ ∃ v, RelV v p.2.2 ∧ Dp K G v q.2) xs kvs
/-- a row of a list of lists -/
def LRow (K : PySem.W.Frag) (G H : Hp) (r : Addr) (es : List D) : Prop := ∃ vs, G r = none ∧ H r = some (.lst vs) ∧ DpAll K G vs es
/-- the defs of laws that make lambdas -/
def lamNames : List Str := ["_law_products", "_law_refusals", "_law_later_refusals"]
/-- the tables of their code objects, and the names that the lambdas' code objects bear -/
def tbOf (K : PySem.W.Frag) : List (Addr × Str) := lamNames.filterMap fun x => (PySem.W.tabIn K x).map fun cp => (cp.2, x ++ ".<locals>.<lambda>")
def TabG (K : PySem.W.Frag) (G H : Hp) : Prop := ∀ p ∈ tbOf K, G p.1 = none ∧ ∃ ps : Array Value, H p.1 = some (.tbl ps) ∧ TriplesOk ps.toList ∧
  ∀ (pos : Pos) (cv : Value), codeAmong pos ps.toList = some cv → ∃ c, cv = .ref c ∧ G c = some (LamX.CodeO c p.2)
def tbA (K : PySem.W.Frag) : List Addr := (tbOf K).map (·.1)
theorem TabG.keep {K : PySem.W.Frag} {G H G' H' : Hp} (t : TabG K G H) (g : Same G G') (n : ∀ a ∈ tbA K, G' a = none) (h : ∀ a ∈ tbA K, ∀ x, H a = some x → H' a = some x) : TabG K G' H' := fun p hp => by
  obtain ⟨_, ps, h1, h2, h3⟩ := t p hp
  have m : p.1 ∈ tbA K := List.mem_map_of_mem hp
  refine ⟨n _ m, ps, h _ m _ h1, h2, fun pos cv hc => ?_⟩
  obtain ⟨c, e1, e2⟩ := h3 pos cv hc
  exact ⟨c, e1, g _ _ e2⟩
theorem TabG.live {K : PySem.W.Frag} {G H : Hp} (t : TabG K G H) : ∀ a ∈ tbA K, H a ≠ none ∧ G a = none := fun a ha => by
  obtain ⟨p, hp, rfl⟩ := List.mem_map.mp ha
  obtain ⟨h0, ps, h1, _⟩ := t p hp
  exact ⟨by rw [h1]; exact (fun q => by cases q), h0⟩
theorem TabG.not {K : PySem.W.Frag} {G H : Hp} (t : TabG K G H) {a : Addr} {xs : List V} (h : H a = some (.lst xs)) : a ∉ tbA K := fun ha => by
  obtain ⟨p, hp, rfl⟩ := List.mem_map.mp ha
  obtain ⟨_, ps, h1, _⟩ := t p hp
  rw [h] at h1; cases h1
/-- at v the owned thing mo stands, at the addresses as -/
def Own (K : PySem.W.Frag) (G H : Hp) (v : V) : MO → List Addr → Prop
  | .lst ds, as => ∃ p vs, v = .ref p ∧ as = [p] ∧ G p = none ∧ H p = some (.lst vs) ∧ DpAll K G vs ds
  | .src cells turn, as => ∃ p c, v = .ref p ∧ as = [p, c] ∧ p ≠ c ∧ G p = none ∧ G c = none ∧
      H p = some (.dK [(.inr "cells", .ref c), (.inr "turn", .int turn)]) ∧ H c = some (.lst (cells.map V.int))
  | .dl ds, as => ∃ p vs, v = .ref p ∧ as = [p] ∧ G p = none ∧ H p = some (.lst vs) ∧ DpAll K G vs ds
  | .dk kvs, as => ∃ p vs, v = .ref p ∧ as = [p] ∧ G p = none ∧ H p = some (.dK vs) ∧ KvAll K G vs kvs
  | .dt kvs, as => ∃ p vs, v = .ref p ∧ as = [p] ∧ G p = none ∧ H p = some (DTO p vs) ∧ TvAll K G vs kvs
  | .dv kvs, as => ∃ p vs, v = .ref p ∧ as = [p] ∧ G p = none ∧ H p = some (DVO p vs) ∧ (vs.map (·.1)).Nodup ∧ TvV K G vs kvs
  | .ll ess, as => ∃ p rs, v = .ref p ∧ as = p :: rs ∧ (p :: rs).Nodup ∧ G p = none ∧ H p = some (.lst (rs.map V.ref)) ∧ Paired (LRow K G H) rs ess
  | .bl ess, as => ∃ p rs, v = .ref p ∧ as = p :: rs ∧ (p :: rs).Nodup ∧ G p = none ∧ H p = some (.lst (rs.map V.ref)) ∧ Paired (LRow K G H) rs ess
  | .iv c kvs, as => ∃ p dx fs, v = .ref p ∧ as = [p] ∧ G p = none ∧ H p = some (.ins (He.ga K c) dx fs) ∧ DpKv K G fs kvs
  | .st w ns, as => ∃ p S, v = .ref p ∧ as = [p] ∧ G p = none ∧ H p = some (SetO w p S ns.length) ∧ ns.Nodup ∧ ∀ i, S i = true ↔ i ∈ ns
  | .rg lo hi, as => ∃ p, v = .ref p ∧ as = [p] ∧ G p = none ∧ H p = some (.rng lo hi)
  | .tl ds, as => ∃ p vs, v = .ref p ∧ as = p :: tbA K ∧ G p = none ∧ H p = some (.lst vs) ∧ DpAll K G vs ds ∧ TabG K G H
  | .scr ds, as => as = tbA K ∧ Dp K G v (.list ds) ∧ TabG K G H
structure Gf (F : Fm) (G H : Hp) : Prop where
  g0 : Same F.G0 G
  gh : Same G H
  nf : ∀ a, F.H0 a ≠ none → F.G0 a = none → ¬ F.Z a → G a = none
  pres : ∀ a o, F.H0 a = some o → ¬ F.Z a → H a = some o
  live : ∀ a, F.H0 a ≠ none → H a ≠ none
def SlotOk (K : PySem.W.Frag) (F : Fm) (G H : Hp) (om : Addr → Nat) (i : Nat) (x : Option (Option V)) : SV → Prop
  | .un => True
  | .dat d => ∃ v, x = some (some v) ∧ Dp K G v d
  | .own mo => ∃ v as, x = some (some v) ∧ Own K G H v mo as ∧ ∀ a ∈ as, om a = i ∧ (F.Z a ∨ F.H0 a = none)
structure Gd (K : PySem.W.Frag) (F : Fm) (G H : Hp) (σ : L2.St) (en : En) : Prop where
  gf : Gf F G H
  len : en.length = σ.length
  sat : ∃ om : Addr → Nat, ∀ i sv, en[i]? = some sv → SlotOk K F G H om i σ[i]? sv
  pin : ∀ (i : Nat) (mo : MO), mo.pinS i → en[i]? = some (.own mo) → σ[i]? = some (some (F.p0 i)) ∧ Own K G H (F.p0 i) mo (F.as0 i)
/-- an entry at which nothing may be changed -/
def F0 (G H : Hp) : Fm := ⟨G, H, fun _ => False, fun _ => .non, fun _ => []⟩
def FsOk (K : PySem.W.Frag) (G : Hp) : List (Str × V) → List (Str × D) → Prop := Paired fun p q => p.1 = q.1 ∧ Dp K G p.2 q.2
def ErrAt (K : PySem.W.Frag) (mg : Str → Option Value) (F : Fm) (c : Str) (fs : List (Str × D)) (cls : Value) (dx : Option Addr) (H' : Hp) : Prop :=
  ∃ C d xs G', cls = .ref C ∧ mg c = some (.ref C) ∧ dx = some d ∧ Gf F G' H' ∧ F.H0 d = none ∧ G' d = none ∧ H' d = some (.xd xs) ∧ FsOk K G' xs fs
section
variable {K : PySem.W.Frag} {mg : Str → Option Value} {F F' : Fm} {G H G' H' : Hp} {σ : L2.St} {en : En}
theorem Gf.comp (g : Gf F G H) (f : Gf F' G' H') (e1 : F'.G0 = G) (e2 : F'.H0 = H) (z : ∀ a, F'.Z a → F.Z a ∨ F.H0 a = none) : Gf F G' H' := by
  subst e1; subst e2
  have hn : ∀ a, F.H0 a ≠ none → F'.H0 a ≠ none := g.live
  have hz : ∀ a, F.H0 a ≠ none → ¬ F.Z a → ¬ F'.Z a := fun a h n q => by
    rcases z a q with x | x
    · exact n x
    · exact h x
  refine ⟨g.g0.trans f.g0, f.gh, fun a h1 h2 h3 => f.nf a (hn a h1) (g.nf a h1 h2 h3) (hz a h1 h3), fun a o h1 h2 => ?_, fun a h => f.live a (hn a h)⟩
  have h1' : F.H0 a ≠ none := by rw [h1]; exact fun q => by cases q
  exact f.pres a o (g.pres a o h1 h2) (hz a h1' h2)
theorem Gf.refl (G H : Hp) (Z : Addr → Prop) (p : Nat → V) (as : Nat → List Addr) (gh : Same G H) : Gf ⟨G, H, Z, p, as⟩ G H :=
  ⟨Same.refl _, gh, fun _ _ h _ => h, fun _ _ h _ => h, fun _ h => h⟩
theorem kv_mono (g : Same G G') : ∀ {vs : List (Key × V)} {kvs : List (Int × D)}, KvAll K G vs kvs → KvAll K G' vs kvs
  | _, _, .nil => .nil
  | _, _, .cons a t => .cons ⟨a.1, dp_mono g _ _ a.2⟩ (kv_mono g t)
theorem tv_mono (g : Same G G') : ∀ {vs : List (List Int × Addr × Value)} {kvs : List (List Int × D)}, TvAll K G vs kvs → TvAll K G' vs kvs
  | _, _, .nil => .nil
  | _, _, .cons ⟨a1, a2, v, a3, a4⟩ t => .cons ⟨a1, seqT_mono g a2, v, a3, dp_mono g _ _ a4⟩ (tv_mono g t)
theorem tvv_mono (g : Same G G') : ∀ {vs : List XV} {kvs : List (Vw × D)}, TvV K G vs kvs → TvV K G' vs kvs
  | _, _, .nil => .nil
  | _, _, .cons ⟨a1, a2, v, a3, a4⟩ t => .cons ⟨a1, dp_mono g _ _ a2, v, a3, dp_mono g _ _ a4⟩ (tvv_mono g t)
theorem lrow_keep (g : Same G G') : ∀ {rs : List Addr} {ess : List (List D)}, (∀ a ∈ rs, G' a = none) → (∀ a ∈ rs, ∀ x, H a = some x → H' a = some x) → Paired (LRow K G H) rs ess → Paired (LRow K G' H') rs ess
  | _, _, _, _, .nil => .nil
  | _, _, n, h, .cons ⟨vs, h1, h2, h3⟩ t => .cons ⟨vs, n _ List.mem_cons_self, h _ List.mem_cons_self _ h2, dpa_mono g _ _ h3⟩ (lrow_keep g (fun a m => n a (List.mem_cons_of_mem _ m)) (fun a m => h a (List.mem_cons_of_mem _ m)) t)
theorem lrow_live : ∀ {rs : List Addr} {ess : List (List D)}, Paired (LRow K G H) rs ess → ∀ a ∈ rs, H a ≠ none ∧ G a = none
  | _, _, .nil, a, m => by cases m
  | _, _, .cons ⟨vs, h1, h2, h3⟩ t, a, m => by
    rcases List.mem_cons.mp m with rfl | m
    · exact ⟨by rw [h2]; exact (fun q => by cases q), h1⟩
    · exact lrow_live t a m
theorem refs_inj : ∀ {xs ys : List Addr}, xs.map V.ref = ys.map V.ref → xs = ys
  | [], [], _ => rfl
  | [], _ :: _, h => by cases h
  | _ :: _, [], h => by cases h
  | x :: xs, y :: ys, h => by
    injection h with h1 h2
    injection h1 with h1
    rw [h1, refs_inj h2]
/-- what an owned thing leans on -/
theorem Own.keep {v : V} {mo : MO} {as : List Addr} (o : Own K G H v mo as) (g : Same G G') (n : ∀ a ∈ as, G' a = none) (h : ∀ a ∈ as, ∀ x, H a = some x → H' a = some x) : Own K G' H' v mo as := by
  cases mo with
  | lst ds =>
    obtain ⟨p, vs, e1, e2, e3, e4, e5⟩ := o
    subst e2
    exact ⟨p, vs, e1, rfl, n p (by simp), h p (by simp) _ e4, dpa_mono g _ _ e5⟩
  | src cells turn =>
    obtain ⟨p, c, e1, e2, e3, e4, e5, e6, e7⟩ := o
    subst e2
    exact ⟨p, c, e1, rfl, e3, n p (by simp), n c (by simp), h p (by simp) _ e6, h c (by simp) _ e7⟩
  | dl ds =>
    obtain ⟨p, vs, e1, e2, e3, e4, e5⟩ := o
    subst e2
    exact ⟨p, vs, e1, rfl, n p (by simp), h p (by simp) _ e4, dpa_mono g _ _ e5⟩
  | dk kvs =>
    obtain ⟨p, vs, e1, e2, e3, e4, e5⟩ := o
    subst e2
    exact ⟨p, vs, e1, rfl, n p (by simp), h p (by simp) _ e4, kv_mono g e5⟩
  | dt kvs =>
    obtain ⟨p, vs, e1, e2, e3, e4, e5⟩ := o
    subst e2
    exact ⟨p, vs, e1, rfl, n p (by simp), h p (by simp) _ e4, tv_mono g e5⟩
  | dv kvs =>
    obtain ⟨p, vs, e1, e2, e3, e4, nd, e5⟩ := o
    subst e2
    exact ⟨p, vs, e1, rfl, n p (by simp), h p (by simp) _ e4, nd, tvv_mono g e5⟩
  | ll ess =>
    obtain ⟨p, rs, e1, e2, nd, e3, e4, e5⟩ := o
    subst e2
    exact ⟨p, rs, e1, rfl, nd, n p List.mem_cons_self, h p List.mem_cons_self _ e4, lrow_keep g (fun a m => n a (List.mem_cons_of_mem _ m)) (fun a m => h a (List.mem_cons_of_mem _ m)) e5⟩
  | bl ess =>
    obtain ⟨p, rs, e1, e2, nd, e3, e4, e5⟩ := o
    subst e2
    exact ⟨p, rs, e1, rfl, nd, n p List.mem_cons_self, h p List.mem_cons_self _ e4, lrow_keep g (fun a m => n a (List.mem_cons_of_mem _ m)) (fun a m => h a (List.mem_cons_of_mem _ m)) e5⟩
  | iv c kvs =>
    obtain ⟨p, dx, fs, e1, e2, e3, e4, e5⟩ := o
    subst e2
    exact ⟨p, dx, fs, e1, rfl, n p (by simp), h p (by simp) _ e4, dpk_mono g e5⟩
  | st w ns =>
    obtain ⟨p, S, e1, e2, e3, e4, e5⟩ := o
    subst e2
    exact ⟨p, S, e1, rfl, n p (by simp), h p (by simp) _ e4, e5⟩
  | rg lo hi =>
    obtain ⟨p, e1, e2, e3, e4⟩ := o
    subst e2
    exact ⟨p, e1, rfl, n p (by simp), h p (by simp) _ e4⟩
  | tl ds =>
    obtain ⟨p, vs, e1, e2, e3, e4, e5, e6⟩ := o
    subst e2
    exact ⟨p, vs, e1, rfl, n p List.mem_cons_self, h p List.mem_cons_self _ e4, dpa_mono g _ _ e5, e6.keep g (fun a m => n a (List.mem_cons_of_mem _ m)) fun a m => h a (List.mem_cons_of_mem _ m)⟩
  | scr ds =>
    obtain ⟨e1, e2, e3⟩ := o
    subst e1
    exact ⟨rfl, dp_mono g _ _ e2, e3.keep g n h⟩
theorem Own.live {v : V} {mo : MO} {as : List Addr} (o : Own K G H v mo as) : ∀ a ∈ as, H a ≠ none ∧ G a = none := by
  intro a ha
  cases mo with
  | lst ds =>
    obtain ⟨p, vs, e1, e2, e3, e4, e5⟩ := o
    subst e2
    have : a = p := by simpa using ha
    subst this
    exact ⟨by rw [e4]; exact (fun q => by cases q), e3⟩
  | src cells turn =>
    obtain ⟨p, c, e1, e2, e3, e4, e5, e6, e7⟩ := o
    subst e2
    have : a = p ∨ a = c := by simpa using ha
    rcases this with rfl | rfl
    · exact ⟨by rw [e6]; exact (fun q => by cases q), e4⟩
    · exact ⟨by rw [e7]; exact (fun q => by cases q), e5⟩
  | dl ds =>
    obtain ⟨p, vs, e1, e2, e3, e4, e5⟩ := o
    subst e2
    have : a = p := by simpa using ha
    subst this
    exact ⟨by rw [e4]; exact (fun q => by cases q), e3⟩
  | dk kvs =>
    obtain ⟨p, vs, e1, e2, e3, e4, e5⟩ := o
    subst e2
    have : a = p := by simpa using ha
    subst this
    exact ⟨by rw [e4]; exact (fun q => by cases q), e3⟩
  | dt kvs =>
    obtain ⟨p, vs, e1, e2, e3, e4, e5⟩ := o
    subst e2
    have : a = p := by simpa using ha
    subst this
    exact ⟨by rw [e4]; exact (fun q => by cases q), e3⟩
  | dv kvs =>
    obtain ⟨p, vs, e1, e2, e3, e4, _, e5⟩ := o
    subst e2
    have : a = p := by simpa using ha
    subst this
    exact ⟨by rw [e4]; exact (fun q => by cases q), e3⟩
  | ll ess =>
    obtain ⟨p, rs, e1, e2, nd, e3, e4, e5⟩ := o
    subst e2
    rcases List.mem_cons.mp ha with rfl | m
    · exact ⟨by rw [e4]; exact (fun q => by cases q), e3⟩
    · exact lrow_live e5 a m
  | bl ess =>
    obtain ⟨p, rs, e1, e2, nd, e3, e4, e5⟩ := o
    subst e2
    rcases List.mem_cons.mp ha with rfl | m
    · exact ⟨by rw [e4]; exact (fun q => by cases q), e3⟩
    · exact lrow_live e5 a m
  | iv c kvs =>
    obtain ⟨p, dx, fs, e1, e2, e3, e4, e5⟩ := o
    subst e2
    have : a = p := by simpa using ha
    subst this
    exact ⟨by rw [e4]; exact (fun q => by cases q), e3⟩
  | st w ns =>
    obtain ⟨p, S, e1, e2, e3, e4, e5⟩ := o
    subst e2
    have : a = p := by simpa using ha
    subst this
    exact ⟨by rw [e4]; exact (fun q => by cases q), e3⟩
  | rg lo hi =>
    obtain ⟨p, e1, e2, e3, e4⟩ := o
    subst e2
    have : a = p := by simpa using ha
    subst this
    exact ⟨by rw [e4]; exact (fun q => by cases q), e3⟩
  | tl ds =>
    obtain ⟨p, vs, e1, e2, e3, e4, e5, e6⟩ := o
    subst e2
    rcases List.mem_cons.mp ha with rfl | m
    · exact ⟨by rw [e4]; exact (fun q => by cases q), e3⟩
    · exact e6.live a m
  | scr ds =>
    obtain ⟨e1, e2, e3⟩ := o
    subst e1
    exact e3.live a ha
theorem Own.inj {v : V} {mo : MO} {as as' : List Addr} (o : Own K G H v mo as) (o' : Own K G H v mo as') : as = as' := by
  cases mo with
  | lst ds =>
    obtain ⟨p, vs, rfl, rfl, _⟩ := o
    obtain ⟨p', vs', e, rfl, _⟩ := o'
    cases e; rfl
  | dl ds =>
    obtain ⟨p, vs, rfl, rfl, _⟩ := o
    obtain ⟨p', vs', e, rfl, _⟩ := o'
    cases e; rfl
  | dk kvs =>
    obtain ⟨p, vs, rfl, rfl, _⟩ := o
    obtain ⟨p', vs', e, rfl, _⟩ := o'
    cases e; rfl
  | dt kvs =>
    obtain ⟨p, vs, rfl, rfl, _⟩ := o
    obtain ⟨p', vs', e, rfl, _⟩ := o'
    cases e; rfl
  | dv kvs =>
    obtain ⟨p, vs, rfl, rfl, _⟩ := o
    obtain ⟨p', vs', e, rfl, _⟩ := o'
    cases e; rfl
  | src cells turn =>
    obtain ⟨p, c, rfl, rfl, e3, e4, e5, e6, e7⟩ := o
    obtain ⟨p', c', e, rfl, k3, k4, k5, k6, k7⟩ := o'
    cases e
    rw [e6] at k6
    cases k6; rfl
  | ll ess =>
    obtain ⟨p, rs, rfl, rfl, nd, e3, e4, e5⟩ := o
    obtain ⟨p', rs', e, rfl, nd', k3, k4, k5⟩ := o'
    cases e
    rw [e4] at k4
    have q : rs.map V.ref = rs'.map V.ref := by injection Option.some.inj k4
    rw [refs_inj q]
  | bl ess =>
    obtain ⟨p, rs, rfl, rfl, nd, e3, e4, e5⟩ := o
    obtain ⟨p', rs', e, rfl, nd', k3, k4, k5⟩ := o'
    cases e
    rw [e4] at k4
    have q : rs.map V.ref = rs'.map V.ref := by injection Option.some.inj k4
    rw [refs_inj q]
  | iv c kvs =>
    obtain ⟨p, dx, fs, rfl, rfl, _⟩ := o
    obtain ⟨p', dx', fs', e, rfl, _⟩ := o'
    cases e; rfl
  | st w ns =>
    obtain ⟨p, S, rfl, rfl, _⟩ := o
    obtain ⟨p', S', e, rfl, _⟩ := o'
    cases e; rfl
  | rg lo hi =>
    obtain ⟨p, rfl, rfl, _⟩ := o
    obtain ⟨p', e, rfl, _⟩ := o'
    cases e; rfl
  | tl ds =>
    obtain ⟨p, vs, rfl, rfl, _⟩ := o
    obtain ⟨p', vs', e, rfl, _⟩ := o'
    cases e; rfl
  | scr ds => exact o.1.trans o'.1.symm
theorem pin_ne {i i0 : Nat} {mo mo' : MO} (hi0 : i ≠ 0) (h1 : mo'.pin1 = false) (hm : mo.pinS i0) (e : (en.set i (SV.own mo'))[i0]? = some (.own mo)) : i ≠ i0 := by
  intro q
  subst q
  by_cases hi : i < en.length
  · rw [List.getElem?_set_self hi] at e
    cases e
    rcases hm with ⟨h, _⟩ | ⟨_, h⟩
    · exact hi0 h
    · rw [h1] at h; cases h
  · rw [List.getElem?_eq_none (by rw [List.length_set]; omega)] at e; cases e
/-- the heap grew, what was owned stays -/
theorem Gd.grow (g : Gd K F G H σ en) (f : Gf (F0 G H) G' H') : Gd K F G' H' σ en := by
  obtain ⟨om, s⟩ := g.sat
  have keep : ∀ {v : V} {mo : MO} {as : List Addr}, Own K G H v mo as → Own K G' H' v mo as := fun {v mo as} o =>
    o.keep f.g0 (fun a ha => f.nf a (o.live a ha).1 (o.live a ha).2 id) fun a _ x hx => f.pres a x hx id
  refine ⟨g.gf.comp f rfl rfl (fun _ z => z.elim), g.len, ⟨om, fun i sv e => ?_⟩, fun i0 mo hm e => ?_⟩
  · have q := s i sv e
    cases sv with
    | un => trivial
    | dat d => obtain ⟨v, h1, h2⟩ := q; exact ⟨v, h1, dp_mono f.g0 d v h2⟩
    | own mo => obtain ⟨v, as, h1, h2, h3⟩ := q; exact ⟨v, as, h1, keep h2, h3⟩
  · obtain ⟨h1, h2⟩ := g.pin i0 mo hm e
    exact ⟨h1, keep h2⟩
theorem gf0_new {p : Addr} {o : HO} (gh : Same G H) (h : H p = none) : Gf (F0 G H) G (upd H p o) :=
  ⟨Same.refl _, fun a x e => by rw [upd_ne (ne_of_none (gh a x e) h)]; exact gh a x e, fun _ _ h _ => h, fun a x e _ => by rw [upd_ne (ne_of_none (show H a = some x from e) h)]; exact e,
    fun a e => by
      by_cases q : a = p
      · subst q; rw [upd_same]; exact fun z => by cases z
      · rw [upd_ne q]; exact e⟩
theorem gf0_newG {p : Addr} {o : HO} (gh : Same G H) (h : H p = none) : Gf (F0 G H) (upd G p o) (upd H p o) := by
  have hg : G p = none := Same.free gh h
  have k := gf0_new (o := o) gh h
  refine ⟨same_upd hg, fun a x e => ?_, fun a e1 e2 _ => ?_, k.pres, k.live⟩
  · by_cases q : a = p
    · subst q; rw [upd_same] at e ⊢; exact e
    · rw [upd_ne q] at e ⊢; exact gh a x e
  · have q : a ≠ p := fun z => e1 (by rw [z]; exact h)
    rw [upd_ne q]; exact e2
theorem gf0_refl (gh : Same G H) : Gf (F0 G H) G H := Gf.refl G H _ _ _ gh
/-- data stored at a name -/
theorem Gd.setDat {i : Nat} {v : V} {d : D} (g : Gd K F G H σ en) (hd : Dp K G v d) : Gd K F G H (σ.set i (some v)) (en.set i (.dat d)) := by
  obtain ⟨om, s⟩ := g.sat
  refine ⟨g.gf, by rw [List.length_set, List.length_set, g.len], ⟨om, fun j sv e => ?_⟩, fun i0 mo hm e => ?_⟩
  · by_cases q : i = j
    · subst q
      by_cases hi : i < en.length
      · rw [List.getElem?_set_self hi] at e
        cases e
        exact ⟨v, by rw [List.getElem?_set_self (by rw [← g.len]; exact hi)], hd⟩
      · rw [List.getElem?_eq_none (by rw [List.length_set]; omega)] at e
        cases e
    · rw [List.getElem?_set_ne q] at e ⊢
      exact s j sv e
  · by_cases q : i = i0
    · subst q
      by_cases hi : i < en.length
      · rw [List.getElem?_set_self hi] at e; cases e
      · rw [List.getElem?_eq_none (by rw [List.length_set]; omega)] at e; cases e
    · rw [List.getElem?_set_ne q] at e ⊢
      exact g.pin i0 mo hm e
/-- a name is forgotten -/
theorem Gd.setUn {i : Nat} {x : Option V} (g : Gd K F G H σ en) : Gd K F G H (σ.set i x) (en.set i .un) := by
  obtain ⟨om, s⟩ := g.sat
  refine ⟨g.gf, by rw [List.length_set, List.length_set, g.len], ⟨om, fun j sv e => ?_⟩, fun i0 mo hm e => ?_⟩
  · by_cases q : i = j
    · subst q
      by_cases hi : i < en.length
      · rw [List.getElem?_set_self hi] at e
        cases e
        trivial
      · rw [List.getElem?_eq_none (by rw [List.length_set]; omega)] at e
        cases e
    · rw [List.getElem?_set_ne q] at e ⊢
      exact s j sv e
  · by_cases q : i = i0
    · subst q
      by_cases hi : i < en.length
      · rw [List.getElem?_set_self hi] at e; cases e
      · rw [List.getElem?_eq_none (by rw [List.length_set]; omega)] at e; cases e
    · rw [List.getElem?_set_ne q] at e ⊢
      exact g.pin i0 mo hm e
/-- p is no slot's -/
def Free (K : PySem.W.Frag) (G H : Hp) (σ : L2.St) (en : En) (p : Addr) : Prop := ∀ (i : Nat) (mo : MO) (v : V) (as : List Addr), en[i]? = some (SV.own mo) → σ[i]? = some (some v) → Own K G H v mo as → p ∉ as
/-- a list that is nobody's becomes data -/
theorem Gd.adopt {p : Addr} {o : HO} (g : Gd K F G H σ en) (hg : G p = none) (hh : H p = some o) (h0 : F.Z p ∨ F.H0 p = none) (fr : Free K G H σ en p) : Gd K F (upd G p o) H σ en := by
  obtain ⟨om, s⟩ := g.sat
  have keep : ∀ {i : Nat} {v : V} {mo : MO} {as : List Addr}, en[i]? = some (.own mo) → σ[i]? = some (some v) → Own K G H v mo as → Own K (upd G p o) H v mo as := fun {i v mo as} e1 e2 ow =>
    ow.keep (same_upd hg) (fun a ha => by
      have q : a ≠ p := fun z => fr _ _ _ _ e1 e2 ow (by rw [← z]; exact ha)
      rw [upd_ne q]; exact (ow.live a ha).2) fun _ _ _ h => h
  refine ⟨⟨g.gf.g0.trans (same_upd hg), fun a x e => ?_, fun a h1 h2 h3 => ?_, g.gf.pres, g.gf.live⟩, g.len, ⟨om, fun i sv e => ?_⟩, fun i0 mo hm e => ?_⟩
  · by_cases q : a = p
    · subst q; rw [upd_same] at e; rw [hh]; exact e
    · rw [upd_ne q] at e; exact g.gf.gh a x e
  · have q : a ≠ p := fun z => by
      subst z
      rcases h0 with z | z
      · exact h3 z
      · exact h1 z
    rw [upd_ne q]; exact g.gf.nf a h1 h2 h3
  · have q := s i sv e
    cases sv with
    | un => trivial
    | dat d => obtain ⟨v, h1, h2⟩ := q; exact ⟨v, h1, dp_mono (same_upd hg) d v h2⟩
    | own mo => obtain ⟨v, as, h1, h2, h3⟩ := q; exact ⟨v, as, h1, keep e h1 h2, h3⟩
  · obtain ⟨h1, h2⟩ := g.pin i0 mo hm e
    exact ⟨h1, keep e h1 h2⟩
/-- .. or a name's own -/
theorem Gd.setOwn {i : Nat} {p : Addr} {vs : List V} {ds : List D} (g : Gd K F G H σ en) (hg : G p = none) (hh : H p = some (.lst vs)) (hd : DpAll K G vs ds) (h0 : F.Z p ∨ F.H0 p = none) (fr : Free K G H σ en p) :
    Gd K F G H (σ.set i (some (.ref p))) (en.set i (.own (.lst ds))) := by
  obtain ⟨om, s⟩ := g.sat
  refine ⟨g.gf, by rw [List.length_set, List.length_set, g.len], ⟨fun a => if a = p then i else om a, fun j sv e => ?_⟩, fun i0 mo hm e => ?_⟩
  · by_cases q : i = j
    · subst q
      by_cases hi : i < en.length
      · rw [List.getElem?_set_self hi] at e
        cases e
        exact ⟨.ref p, [p], by rw [List.getElem?_set_self (by rw [← g.len]; exact hi)], ⟨p, vs, rfl, rfl, hg, hh, hd⟩, fun a ha => by
          have : a = p := by simpa using ha
          subst this
          exact ⟨if_pos rfl, h0⟩⟩
      · rw [List.getElem?_eq_none (by rw [List.length_set]; omega)] at e
        cases e
    · rw [List.getElem?_set_ne q] at e ⊢
      have z := s j sv e
      cases sv with
      | un => trivial
      | dat d => exact z
      | own mo =>
        obtain ⟨v, as, h1, h2, h3⟩ := z
        refine ⟨v, as, h1, h2, fun a ha => ⟨?_, (h3 a ha).2⟩⟩
        have : a ≠ p := fun z => fr _ _ _ _ e h1 h2 (by rw [← z]; exact ha)
        show (if a = p then i else om a) = j
        rw [if_neg this]
        exact (h3 a ha).1
  · by_cases q : i = i0
    · subst q
      by_cases hi : i < en.length
      · rw [List.getElem?_set_self hi] at e; cases e; exact nomatch MO.pinS_p hm
      · rw [List.getElem?_eq_none (by rw [List.length_set]; omega)] at e; cases e
    · rw [List.getElem?_set_ne q] at e ⊢
      exact g.pin i0 mo hm e
/-- another list at a name's own -/
theorem Gd.mut {i : Nat} {p : Addr} {ws : List V} {ds es : List D} (g : Gd K F G H σ en) (he : en[i]? = some (.own (.lst ds))) (hs : σ[i]? = some (some (.ref p))) (hd : DpAll K G ws es) :
    Gd K F G (upd H p (.lst ws)) σ (en.set i (.own (.lst es))) := by
  obtain ⟨om, s⟩ := g.sat
  obtain ⟨v, as, h1, h2, h3⟩ := s i _ he
  rw [hs] at h1; cases h1
  obtain ⟨p', vs', q1, q2, q3, q4, q5⟩ := h2
  cases q1
  subst q2
  obtain ⟨o1, o2⟩ := h3 p (by simp)
  have hi : i < en.length := (List.getElem?_eq_some_iff.mp he).1
  have keep : ∀ {j : Nat} {v : V} {mo : MO} {as : List Addr}, j ≠ i → (∀ a ∈ as, om a = j) → Own K G H v mo as → Own K G (upd H p (.lst ws)) v mo as := fun {j v mo as} nj hj ow =>
    ow.keep (Same.refl _) (fun a ha => (ow.live a ha).2) fun a ha x hx => by
      have : a ≠ p := fun z => nj (by rw [← hj a ha, z, o1])
      rw [upd_ne this]; exact hx
  refine ⟨⟨g.gf.g0, fun a x e => ?_, g.gf.nf, fun a o h4 h5 => ?_, fun a h => ?_⟩, by rw [List.length_set, g.len], ⟨om, fun j sv e => ?_⟩, fun i0 mo hm e => ?_⟩
  · have : a ≠ p := fun z => by rw [z, q3] at e; cases e
    rw [upd_ne this]; exact g.gf.gh a x e
  · have : a ≠ p := fun z => by
      subst z
      rcases o2 with z | z
      · exact h5 z
      · rw [z] at h4; cases h4
    rw [upd_ne this]; exact g.gf.pres a o h4 h5
  · by_cases q : a = p
    · subst q; rw [upd_same]; exact fun z => by cases z
    · rw [upd_ne q]; exact g.gf.live a h
  · by_cases q : i = j
    · subst q
      rw [List.getElem?_set_self hi] at e
      cases e
      exact ⟨.ref p, [p], hs, ⟨p, ws, rfl, rfl, q3, upd_same, hd⟩, fun a ha => h3 a ha⟩
    · rw [List.getElem?_set_ne q] at e
      have z := s j sv e
      cases sv with
      | un => trivial
      | dat d => exact z
      | own mo =>
        obtain ⟨v, as, h1, h2, h3⟩ := z
        exact ⟨v, as, h1, keep (Ne.symm q) (fun a ha => (h3 a ha).1) h2, h3⟩
  · have q : i ≠ i0 := fun z => by
      subst z
      rw [List.getElem?_set_self hi] at e; cases e; exact nomatch MO.pinS_p hm
    rw [List.getElem?_set_ne q] at e
    obtain ⟨r1, r2⟩ := g.pin i0 mo hm e
    refine ⟨r1, ?_⟩
    have z := s i0 _ e
    obtain ⟨v, as, h1, h2, h3⟩ := z
    rw [r1] at h1; cases h1
    obtain rfl := h2.inj r2
    exact keep (Ne.symm q) (fun a ha => (h3 a ha).1) r2
/-- a slot of data, of an own list -/
theorem Gd.dat {i : Nat} {d : D} (g : Gd K F G H σ en) (e : en[i]? = some (.dat d)) : ∃ v, σ[i]? = some (some v) ∧ Dp K G v d := by
  obtain ⟨om, s⟩ := g.sat
  exact s i _ e
theorem Gd.own {i : Nat} {ds : List D} (g : Gd K F G H σ en) (e : en[i]? = some (.own (.lst ds))) : ∃ p vs, σ[i]? = some (some (.ref p)) ∧ G p = none ∧ H p = some (.lst vs) ∧ DpAll K G vs ds ∧ (F.Z p ∨ F.H0 p = none) := by
  obtain ⟨om, s⟩ := g.sat
  obtain ⟨v, as, h1, ⟨p, vs, rfl, rfl, h4, h5, h6⟩, h3⟩ := s i _ e
  exact ⟨p, vs, h1, h4, h5, h6, (h3 p (by simp)).2⟩
/-- an own list becomes data -/
theorem Gd.freeze {i : Nat} {ds : List D} (g : Gd K F G H σ en) (e : en[i]? = some (.own (.lst ds))) : ∃ p vs, σ[i]? = some (some (.ref p)) ∧ Gd K F (upd G p (.lst vs)) H σ (en.set i (.dat (.list ds))) ∧ Same G (upd G p (.lst vs)) ∧ Dp K (upd G p (.lst vs)) (.ref p) (.list ds) := by
  obtain ⟨p, vs, h1, h2, h3, h4, h5⟩ := g.own e
  have hi : i < en.length := (List.getElem?_eq_some_iff.mp e).1
  have sm : Same G (upd G p (.lst vs)) := same_upd h2
  have dp : Dp K (upd G p (.lst vs)) (.ref p) (.list ds) := .lst (.inl (.inl upd_same)) (dpa_mono sm _ _ h4)
  refine ⟨p, vs, h1, ?_, sm, dp⟩
  obtain ⟨om, s⟩ := g.sat
  obtain ⟨v, as, k1, k2, k3⟩ := s i _ e
  rw [h1] at k1; cases k1
  have as1 : as = [p] := by obtain ⟨p', vs', q1, q2, _⟩ := k2; cases q1; exact q2
  subst as1
  have omp := (k3 p (by simp)).1
  -- first the name is forgotten, then the list is nobody's
  have g1 : Gd K F G H σ (en.set i .un) := by
    have z := g.setUn (i := i) (x := some (.ref p))
    have : σ.set i (some (V.ref p)) = σ := by
      refine List.ext_getElem? fun j => ?_
      by_cases q : i = j
      · subst q
        rw [List.getElem?_set_self (by rw [← g.len]; exact hi), h1]
      · rw [List.getElem?_set_ne q]
    rw [this] at z
    exact z
  have fr : Free K G H σ (en.set i .un) p := by
    intro j mo v as e1 e2 ow hp
    have q : i ≠ j := fun z => by
      subst z
      rw [List.getElem?_set_self hi] at e1; cases e1
    rw [List.getElem?_set_ne q] at e1
    obtain ⟨v', as', l1, l2, l3⟩ := s j _ e1
    rw [e2] at l1; cases l1
    obtain rfl := ow.inj l2
    exact q (omp.symm.trans (l3 p hp).1)
  have g2 := g1.adopt h2 h3 h5 fr
  have g3 := g2.setDat (i := i) dp
  rw [List.set_set] at g3
  have : σ.set i (some (V.ref p)) = σ := by
    refine List.ext_getElem? fun j => ?_
    by_cases q : i = j
    · subst q
      rw [List.getElem?_set_self (by rw [← g.len]; exact hi), h1]
    · rw [List.getElem?_set_ne q]
  rw [this] at g3
  exact g3
/-- from here on, everything but what the slots own is to stay -/
def Fm.re (F : Fm) (K : PySem.W.Frag) (G H : Hp) (σ : L2.St) (en : En) : Fm :=
  ⟨G, H, fun a => ∃ (i : Nat) (mo : MO) (v : V) (as : List Addr), en[i]? = some (SV.own mo) ∧ σ[i]? = some (some v) ∧ Own K G H v mo as ∧ a ∈ as, F.p0, F.as0⟩
theorem Gd.rebase (g : Gd K F G H σ en) : Gd K (F.re K G H σ en) G H σ en := by
  obtain ⟨om, s⟩ := g.sat
  refine ⟨Gf.refl _ _ _ _ _ g.gf.gh, g.len, ⟨om, fun i sv e => ?_⟩, g.pin⟩
  have q := s i sv e
  cases sv with
  | un => trivial
  | dat d => exact q
  | own mo =>
    obtain ⟨v, as, h1, h2, h3⟩ := q
    exact ⟨v, as, h1, h2, fun a ha => ⟨(h3 a ha).1, .inl ⟨i, mo, v, as, e, h1, h2, ha⟩⟩⟩
theorem Gd.zs (g : Gd K F G H σ en) : ∀ a, (F.re K G H σ en).Z a → F.Z a ∨ F.H0 a = none := by
  rintro a ⟨i, mo, v, as, e, h1, h2, ha⟩
  obtain ⟨om, s⟩ := g.sat
  obtain ⟨v', as', k1, k2, k3⟩ := s i _ e
  rw [h1] at k1; cases k1
  obtain rfl := h2.inj k2
  exact (k3 a ha).2
theorem Gd.back {σ' : L2.St} {en' : En} (g : Gd K F G H σ en) (g' : Gd K (F.re K G H σ en) G' H' σ' en') : Gd K F G' H' σ' en' := by
  obtain ⟨om, s⟩ := g'.sat
  refine ⟨g.gf.comp g'.gf rfl rfl g.zs, g'.len, ⟨om, fun i sv e => ?_⟩, g'.pin⟩
  have q := s i sv e
  cases sv with
  | un => trivial
  | dat d => exact q
  | own mo =>
    obtain ⟨v, as, h1, h2, h3⟩ := q
    refine ⟨v, as, h1, h2, fun a ha => ⟨(h3 a ha).1, ?_⟩⟩
    rcases (h3 a ha).2 with z | z
    · exact g.zs a z
    · right
      have z' : H a = none := z
      cases q : F.H0 a with
      | none => rfl
      | some o => exact absurd z' (g.gf.live a (by rw [q]; exact fun z => by cases z))
theorem ErrAt.back {c : Str} {fs : List (Str × D)} {cls : Value} {dx : Option Addr} (g : Gf F G H) (e1 : F'.G0 = G) (e2 : F'.H0 = H) (z : ∀ a, F'.Z a → F.Z a ∨ F.H0 a = none) (e : ErrAt K mg F' c fs cls dx H') : ErrAt K mg F c fs cls dx H' := by
  obtain ⟨C, d, xs, G2, h1, h2, h3, h4, h5, h6, h7, h8⟩ := e
  refine ⟨C, d, xs, G2, h1, h2, h3, g.comp h4 e1 e2 z, ?_, h6, h7, h8⟩
  cases q : F.H0 d with
  | none => rfl
  | some o =>
    have := g.live d (by rw [q]; exact fun z => by cases z)
    rw [← e2] at this
    exact absurd h5 this
end
end Mir
end
section
set_option Elab.async false
set_option linter.all false
set_option maxRecDepth 100000
set_option maxHeartbeats 4000000
namespace Mir
open PySem PySem.Spec PyProof.Rows L2
def Rs.bind {A B : Type} (x : Rs A) (f : A → Rs B) : Rs B := match x with
  | .ok a => f a
  | .err c fs => .err c fs
  | .stk => .stk
/-- no error may come of it -/
def Rs.calm {A : Type} (x : Rs A) : Rs A := match x with
  | .ok a => .ok a
  | _ => .stk
@[simp] theorem bind_ok {A B : Type} (a : A) (f : A → Rs B) : (Rs.ok a).bind f = f a := rfl
@[simp] theorem bind_err {A B : Type} (c : Str) (fs : List (Str × D)) (f : A → Rs B) : (Rs.err c fs).bind f = .err c fs := rfl
@[simp] theorem bind_stk {A B : Type} (f : A → Rs B) : (Rs.stk).bind f = .stk := rfl
@[simp] theorem calm_ok {A : Type} (a : A) : (Rs.ok a).calm = .ok a := rfl
@[simp] theorem calm_err {A : Type} (c : Str) (fs : List (Str × D)) : (Rs.err c fs : Rs A).calm = .stk := rfl
@[simp] theorem calm_stk {A : Type} : (Rs.stk : Rs A).calm = .stk := rfl
/-- more than any list here is long -/
def big : Nat := 100000
theorem big_line {n : Nat} (h : n ≤ big) : n ≤ sizeLine := Nat.le_trans h (by decide)
theorem big_lt {n : Nat} (h : n < big) : n < sizeLine := Nat.lt_of_lt_of_le h (by decide)
section
variable (K : PySem.W.Frag) (mg : Str → Option Value) (E : XK)
def PoE (F : Fm) (σ : L2.St) (G : Hp) (Q : VK) : Rs (D × En) → Prop
  | .ok (d, en') => ∀ v G' H', Gd K F G' H' σ en' → Same G G' → Dp K G' v d → Q v H'
  | .err c fs => ∀ cls dx H', ErrAt K mg F c fs cls dx H' → E cls dx H'
  | .stk => False
/-- a new list that is nobody's yet -/
def PoL (F : Fm) (σ : L2.St) (G : Hp) (Q : VK) : Rs (List D × En) → Prop
  | .ok (ds, en') => ∀ p vs G' H', Gd K F G' H' σ en' → Same G G' → G' p = none → H' p = some (.lst vs) → DpAll K G' vs ds → F.H0 p = none → Free K G' H' σ en' p → Q (.ref p) H'
  | .err c fs => ∀ cls dx H', ErrAt K mg F c fs cls dx H' → E cls dx H'
  | .stk => False
def PoT (F : Fm) (σ : L2.St) (G : Hp) (Q : Bool → Hp → Prop) : Rs (Bool × En) → Prop
  | .ok (b, en') => ∀ G' H', Gd K F G' H' σ en' → Same G G' → Q b H'
  | .err c fs => ∀ cls dx H', ErrAt K mg F c fs cls dx H' → E cls dx H'
  | .stk => False
def PoA (F : Fm) (σ : L2.St) (G : Hp) (Q : List V → Hp → Prop) : Rs (List D × En) → Prop
  | .ok (ds, en') => ∀ vs G' H', Gd K F G' H' σ en' → Same G G' → DpAll K G' vs ds → Q vs H'
  | .err c fs => ∀ cls dx H', ErrAt K mg F c fs cls dx H' → E cls dx H'
  | .stk => False
def PoS (F : Fm) (G : Hp) (D : Ends) : Rs (Fl × En) → Prop
  | .ok (.nx, en') => ∀ σ' G' H', Gd K F G' H' σ' en' → Same G G' → D.nx σ' H'
  | .ok (.bk, en') => ∀ σ' G' H', Gd K F G' H' σ' en' → Same G G' → D.bk σ' H'
  | .ok (.ct, en') => ∀ σ' G' H', Gd K F G' H' σ' en' → Same G G' → D.ct σ' H'
  | .ok (.rt d, en') => ∀ v σ' G' H', Gd K F G' H' σ' en' → Same G G' → Dp K G' v d → D.rt v H'
  | .err c fs => ∀ cls dx H', ErrAt K mg F c fs cls dx H' → E cls dx H'
  | .stk => False
end
section
variable (K : PySem.W.Frag) (mg : Str → Option Value) (E : L2.St → XK)
structure SE (te : TE) (m : Em) : Prop where
  run : ∀ F σ en G H Q, Gd K F G H σ en → PoE K mg (E σ) F σ G Q (m en) → te σ H Q
structure SL (te : TE) (m : Am) : Prop where
  run : ∀ F σ en G H Q, Gd K F G H σ en → PoL K mg (E σ) F σ G Q (m en) → te σ H Q
structure ST (tt : TT) (m : Tm) : Prop where
  run : ∀ F σ en G H Q, Gd K F G H σ en → PoT K mg (E σ) F σ G Q (m en) → tt σ H Q
structure SA (ta : TA) (m : Am) : Prop where
  run : ∀ F σ en G H Q, Gd K F G H σ en → PoA K mg (E σ) F σ G Q (m en) → ta σ H Q
/-- a target that stores at the slots js alone -/
structure SG (js : List Nat) (g : TG) (m : Gm) : Prop where
  run : ∀ F σ en G H v d Q, Gd K F G H σ en → Dp K G v d → (match m d en with
    | .ok en' => ∀ σ', σ'.length = σ.length → (∀ k, k ∉ js → σ'[k]? = σ[k]?) → Gd K F G H σ' en' → Q σ' H
    | _ => False) → g v σ H Q
end
/-- statements; an error may come at any slots -/
structure SS (K : PySem.W.Frag) (mg : Str → Option Value) (E : XK) (ts : TS) (m : Sm) : Prop where
  run : ∀ F σ en G H D, Gd K F G H σ en → PoS K mg E F G D (m en) → ts D σ H
/-- what is walked yields the data ds, whatever else there is -/
def ItOk (K : PySem.W.Frag) (G0 : Hp) (J : It) (ds : List D) : Prop := ∀ i G H, Same G0 G → Same G H →
  (∀ d, ds[i]? = some d → J.go i H ∧ ∀ x H', J.yld i H x H' → ∃ G2, Gf (F0 G H) G2 H' ∧ Dp K G2 x d) ∧ (ds[i]? = none → J.stop i H)
section
variable (K : PySem.W.Frag) (mg : Str → Option Value) (E : XK)
def PoI (F : Fm) (σ : L2.St) (G : Hp) (R : It → Hp → Prop) : Rs (List D × En) → Prop
  | .ok (ds, en') => ∀ J G' H', Gd K F G' H' σ en' → Same G G' → ItOk K G' J ds → R J H'
  | .err c fs => ∀ cls dx H', ErrAt K mg F c fs cls dx H' → E cls dx H'
  | .stk => False
end
section
variable (K : PySem.W.Frag) (mg : Str → Option Value) (E : L2.St → XK)
structure SI (wi : TI) (m : Im) : Prop where
  run : ∀ F σ en G H R, Gd K F G H σ en → PoI K mg (E σ) F σ G R (m en) → wi σ H R
/-- operations on values -/
structure O1 (r : V → Hp → VK → Prop) (f : D → Rs D) : Prop where
  run : ∀ G H x d z, Same G H → Dp K G x d → f d = .ok z → ∀ Q : VK, (∀ v G' H', Gf (F0 G H) G' H' → Dp K G' v z → Q v H') → r x H Q
structure O2 (r : R2) (f : D → D → Rs D) : Prop where
  run : ∀ G H x y d e z, Same G H → Dp K G x d → Dp K G y e → f d e = .ok z → ∀ Q : VK, (∀ v G' H', Gf (F0 G H) G' H' → Dp K G' v z → Q v H') → r x y H Q
structure ON (r : List V → Hp → VK → Prop) (f : List D → Rs D) : Prop where
  run : ∀ G H xs ds z, Same G H → DpAll K G xs ds → f ds = .ok z → ∀ Q : VK, (∀ v G' H', Gf (F0 G H) G' H' → Dp K G' v z → Q v H') → r xs H Q
/-- .. that make a new list -/
structure OL (r : List V → Hp → VK → Prop) (f : List D → Rs (List D)) : Prop where
  run : ∀ G H xs ds zs, Same G H → DpAll K G xs ds → f ds = .ok zs → ∀ Q : VK, (∀ p vs G' H', Gf (F0 G H) G' H' → H p = none → G' p = none → H' p = some (.lst vs) → DpAll K G' vs zs → Q (.ref p) H') → r xs H Q
end
section
variable {K : PySem.W.Frag} {mg : Str → Option Value} {E : L2.St → XK} {F : Fm} {σ : L2.St} {G G' H H' : Hp} {en : En}
theorem PoE.bind {A : Type} {Q : VK} {x : Rs A} {f : A → Rs (D × En)} (h : PoE K mg (E σ) F σ G Q (x.bind f)) : (∃ a, x = .ok a ∧ PoE K mg (E σ) F σ G Q (f a)) ∨ ∃ c fs, x = .err c fs ∧ ∀ cls dx H', ErrAt K mg F c fs cls dx H' → E σ cls dx H' := by
  cases x with
  | ok a => exact .inl ⟨a, rfl, h⟩
  | err c fs => exact .inr ⟨c, fs, rfl, h⟩
  | stk => exact h.elim
theorem se_bind {te : TE} {m : Em} {Q : VK} {B : Type} {P : Rs B → Prop} {f : D × En → Rs B} (h : SE K mg E te m) (g : Gd K F G H σ en) (he : ∀ c fs, P (.err c fs) → ∀ cls dx H', ErrAt K mg F c fs cls dx H' → E σ cls dx H') (hs : ¬ P .stk)
    (p : P ((m en).bind f)) (k : ∀ d en' v G' H', P (f (d, en')) → Gd K F G' H' σ en' → Same G G' → Dp K G' v d → Q v H') : te σ H Q := by
  refine h.run F σ en G H Q g ?_
  cases q : m en with
  | ok a =>
    obtain ⟨d, en'⟩ := a
    rw [q] at p
    exact fun v G' H' g' s' hd => k d en' v G' H' p g' s' hd
  | err c fs =>
    rw [q] at p
    exact he c fs p
  | stk =>
    rw [q] at p
    exact hs p
theorem sl_bind {te : TE} {m : Am} {Q : VK} {B : Type} {P : Rs B → Prop} {f : List D × En → Rs B} (h : SL K mg E te m) (g : Gd K F G H σ en) (he : ∀ c fs, P (.err c fs) → ∀ cls dx H', ErrAt K mg F c fs cls dx H' → E σ cls dx H') (hs : ¬ P .stk)
    (p : P ((m en).bind f)) (k : ∀ ds en' p vs G' H', P (f (ds, en')) → Gd K F G' H' σ en' → Same G G' → G' p = none → H' p = some (.lst vs) → DpAll K G' vs ds → F.H0 p = none → Free K G' H' σ en' p → Q (.ref p) H') : te σ H Q := by
  refine h.run F σ en G H Q g ?_
  cases q : m en with
  | ok a =>
    obtain ⟨d, en'⟩ := a
    rw [q] at p
    exact fun pp vs G' H' g' s' h1 h2 h3 h4 h5 => k d en' pp vs G' H' p g' s' h1 h2 h3 h4 h5
  | err c fs =>
    rw [q] at p
    exact he c fs p
  | stk =>
    rw [q] at p
    exact hs p
theorem st_bind {tt : TT} {m : Tm} {Q : Bool → Hp → Prop} {B : Type} {P : Rs B → Prop} {f : Bool × En → Rs B} (h : ST K mg E tt m) (g : Gd K F G H σ en) (he : ∀ c fs, P (.err c fs) → ∀ cls dx H', ErrAt K mg F c fs cls dx H' → E σ cls dx H') (hs : ¬ P .stk)
    (p : P ((m en).bind f)) (k : ∀ b en' G' H', P (f (b, en')) → Gd K F G' H' σ en' → Same G G' → Q b H') : tt σ H Q := by
  refine h.run F σ en G H Q g ?_
  cases q : m en with
  | ok a =>
    obtain ⟨d, en'⟩ := a
    rw [q] at p
    exact fun G' H' g' s' => k d en' G' H' p g' s'
  | err c fs =>
    rw [q] at p
    exact he c fs p
  | stk =>
    rw [q] at p
    exact hs p
theorem sa_bind {ta : TA} {m : Am} {Q : List V → Hp → Prop} {B : Type} {P : Rs B → Prop} {f : List D × En → Rs B} (h : SA K mg E ta m) (g : Gd K F G H σ en) (he : ∀ c fs, P (.err c fs) → ∀ cls dx H', ErrAt K mg F c fs cls dx H' → E σ cls dx H') (hs : ¬ P .stk)
    (p : P ((m en).bind f)) (k : ∀ ds en' vs G' H', P (f (ds, en')) → Gd K F G' H' σ en' → Same G G' → DpAll K G' vs ds → Q vs H') : ta σ H Q := by
  refine h.run F σ en G H Q g ?_
  cases q : m en with
  | ok a =>
    obtain ⟨d, en'⟩ := a
    rw [q] at p
    exact fun vs G' H' g' s' hd => k d en' vs G' H' p g' s' hd
  | err c fs =>
    rw [q] at p
    exact he c fs p
  | stk =>
    rw [q] at p
    exact hs p
theorem si_bind {wi : TI} {m : Im} {R : It → Hp → Prop} {B : Type} {P : Rs B → Prop} {f : List D × En → Rs B} (h : SI K mg E wi m) (g : Gd K F G H σ en) (he : ∀ c fs, P (.err c fs) → ∀ cls dx H', ErrAt K mg F c fs cls dx H' → E σ cls dx H') (hs : ¬ P .stk)
    (p : P ((m en).bind f)) (k : ∀ ds en' J G' H', P (f (ds, en')) → Gd K F G' H' σ en' → Same G G' → ItOk K G' J ds → R J H') : wi σ H R := by
  refine h.run F σ en G H R g ?_
  cases q : m en with
  | ok a =>
    obtain ⟨d, en'⟩ := a
    rw [q] at p
    exact fun J G' H' g' s' hd => k d en' J G' H' p g' s' hd
  | err c fs =>
    rw [q] at p
    exact he c fs p
  | stk =>
    rw [q] at p
    exact hs p
theorem poE_err {Q : VK} (c fs) (h : PoE K mg (E σ) F σ G Q (.err c fs)) : ∀ cls dx H', ErrAt K mg F c fs cls dx H' → E σ cls dx H' := h
theorem poL_err {Q : VK} (c fs) (h : PoL K mg (E σ) F σ G Q (.err c fs)) : ∀ cls dx H', ErrAt K mg F c fs cls dx H' → E σ cls dx H' := h
theorem poT_err {Q : Bool → Hp → Prop} (c fs) (h : PoT K mg (E σ) F σ G Q (.err c fs)) : ∀ cls dx H', ErrAt K mg F c fs cls dx H' → E σ cls dx H' := h
theorem poA_err {Q : List V → Hp → Prop} (c fs) (h : PoA K mg (E σ) F σ G Q (.err c fs)) : ∀ cls dx H', ErrAt K mg F c fs cls dx H' → E σ cls dx H' := h
theorem poI_err {Q : It → Hp → Prop} (c fs) (h : PoI K mg (E σ) F σ G Q (.err c fs)) : ∀ cls dx H', ErrAt K mg F c fs cls dx H' → E σ cls dx H' := h
theorem poS_err {E : XK} {D : Ends} (c fs) (h : PoS K mg E F G D (.err c fs)) : ∀ cls dx H', ErrAt K mg F c fs cls dx H' → E cls dx H' := h
theorem PoS.up {E : XK} {D : Ends} {x : Rs (Fl × En)} (s : Same G G') (h : PoS K mg E F G D x) : PoS K mg E F G' D x := by
  cases x with
  | ok a =>
    obtain ⟨f, en'⟩ := a
    cases f with
    | nx => exact fun σ2 G2 H2 g2 s2 => h σ2 G2 H2 g2 (s.trans s2)
    | bk => exact fun σ2 G2 H2 g2 s2 => h σ2 G2 H2 g2 (s.trans s2)
    | ct => exact fun σ2 G2 H2 g2 s2 => h σ2 G2 H2 g2 (s.trans s2)
    | rt d => exact fun v σ2 G2 H2 g2 s2 hd => h v σ2 G2 H2 g2 (s.trans s2) hd
  | err c fs => exact h
  | stk => exact h
def eVar (i : Nat) : Em := fun en => match en[i]? with
  | some (.dat d) => .ok (d, en)
  | some (.own (.lst ds)) => .ok (.list ds, en.set i (.dat (.list ds)))
  | _ => .stk
theorem se_var {i : Nat} : SE K mg E (tVar i) (eVar i) := by
  refine ⟨fun F σ en G H Q g h => ?_⟩
  unfold eVar at h
  split at h
  · rename_i d e
    obtain ⟨v, h1, h2⟩ := g.dat e
    exact ⟨v, h1, h v G H g (Same.refl _) h2⟩
  · rename_i ds e
    obtain ⟨p, vs, h1, h2, h3, h4⟩ := g.freeze e
    exact ⟨.ref p, h1, h (.ref p) _ H h2 h3 h4⟩
  · exact h.elim
def eC (d : D) : Em := fun en => .ok (d, en)
theorem se_c {v : V} {d : D} (hd : ∀ G, Dp K G v d) : SE K mg E (tC v) (eC d) := ⟨fun F σ en G H Q g h => h v G H g (Same.refl _) (hd G)⟩
theorem se_int {i : Int} : SE K mg E (tC (.int i)) (eC (.int i)) := se_c fun _ => .int i
theorem se_bl {b : Bool} : SE K mg E (tC (.bl b)) (eC (.bool b)) := se_c fun _ => .bl b
theorem se_non : SE K mg E (tC .non) (eC .none) := se_c fun _ => .non
theorem se_str {x : Str} : SE K mg E (tC (.str x)) (eC (.str x)) := se_c fun _ => .str x
def aNil : Am := fun en => .ok ([], en)
def aCons (m : Em) (r : Am) : Am := fun en => (m en).bind fun p => (r p.2).bind fun q => .ok (p.1 :: q.1, q.2)
theorem sa_nil : SA K mg E tNil aNil := ⟨fun F σ en G H Q g h => h [] G H g (Same.refl _) .nil⟩
theorem sa_cons {te : TE} {ta : TA} {m : Em} {r : Am} (h1 : SE K mg E te m) (h2 : SA K mg E ta r) : SA K mg E (tCons te ta) (aCons m r) := by
  refine ⟨fun F σ en G H Q g h => ?_⟩
  refine se_bind h1 g poA_err id h fun d en1 v G1 H1 p1 g1 s1 d1 => ?_
  refine sa_bind h2 g1 poA_err id p1 fun ds en2 vs G2 H2 p2 g2 s2 d2 => ?_
  exact p2 (v :: vs) G2 H2 g2 (s1.trans s2) (.cons (dp_mono s2 _ _ d1) d2)
def eTup (a : Am) : Em := fun en => (a en).bind fun p => if p.1.length ≤ big then .ok (.tuple p.1, p.2) else .stk
theorem se_tup {ta : TA} {a : Am} (h1 : SA K mg E ta a) : SE K mg E (tTup ta) (eTup a) := by
  refine ⟨fun F σ en G H Q g h => ?_⟩
  refine sa_bind h1 g poE_err id h fun ds en1 vs G1 H1 p1 g1 s1 d1 => ?_
  split at p1
  · rename_i hz
    refine ⟨by rw [dpa_len d1]; exact big_line hz, fun p hp => ?_⟩
    have f := gf0_newG (o := .tup vs) g1.gf.gh hp
    exact p1 (.ref p) _ _ (g1.grow f) (s1.trans f.g0) (.tup (.inl (.inl upd_same)) (dpa_mono f.g0 _ _ d1))
  · exact p1.elim
/-- a new list, by what is asked of a new list -/
theorem free_new {p : Addr} (g : Gd K F G H σ en) (hp : H p = none) (f : Gf (F0 G H) G' H') : Free K G' H' σ en p := by
  intro i mo v as e1 e2 ow ha
  obtain ⟨om, s⟩ := g.sat
  obtain ⟨v', as', k1, k2, k3⟩ := s i _ e1
  rw [e2] at k1; cases k1
  have k2' : Own K G' H' v mo as' := k2.keep f.g0 (fun a ha => f.nf a (k2.live a ha).1 (k2.live a ha).2 id) fun a _ x hx => f.pres a x hx id
  obtain rfl := ow.inj k2'
  exact (k2.live p ha).1 hp
theorem h0_new {p : Addr} (g : Gd K F G H σ en) (hp : H p = none) : F.H0 p = none := by
  cases q : F.H0 p with
  | none => rfl
  | some o => exact absurd hp (g.gf.live p (by rw [q]; exact fun z => by cases z))
def lLst (a : Am) : Am := fun en => (a en).bind fun p => if p.1.length ≤ big then .ok p else .stk
theorem sl_lst {ta : TA} {a : Am} (h1 : SA K mg E ta a) : SL K mg E (tLst ta) (lLst a) := by
  refine ⟨fun F σ en G H Q g h => ?_⟩
  refine sa_bind h1 g poL_err id h fun ds en1 vs G1 H1 p1 g1 s1 d1 => ?_
  split at p1
  · rename_i hz
    refine ⟨by rw [dpa_len d1]; exact big_line hz, fun p hp => ?_⟩
    have f := gf0_new (o := .lst vs) g1.gf.gh hp
    exact p1 p vs G1 _ (g1.grow f) s1 (Same.free g1.gf.gh hp) upd_same d1 (h0_new g1 hp) (free_new g1 hp f)
  · exact p1.elim
/-- a new list as data -/
def eL (m : Am) : Em := fun en => (m en).bind fun p => .ok (.list p.1, p.2)
theorem se_l {te : TE} {m : Am} (h1 : SL K mg E te m) : SE K mg E te (eL m) := by
  refine ⟨fun F σ en G H Q g h => ?_⟩
  refine sl_bind h1 g poE_err id h fun ds en1 p vs G1 H1 p1 g1 s1 hg hh hd h0 fr => ?_
  have sm : Same G1 (upd G1 p (.lst vs)) := same_upd hg
  exact p1 (.ref p) _ H1 (g1.adopt hg hh (.inr h0) fr) (s1.trans sm) (.lst (.inl (.inl upd_same)) (dpa_mono sm _ _ hd))
def e1 (f : D → Rs D) (a : Em) : Em := fun en => (a en).bind fun p => (f p.1).calm.bind fun z => .ok (z, p.2)
def e2 (f : D → D → Rs D) (a b : Em) : Em := fun en => (a en).bind fun p => (b p.2).bind fun q => (f p.1 q.1).calm.bind fun z => .ok (z, q.2)
def eN (f : List D → Rs D) (a : Am) : Em := fun en => (a en).bind fun p => (f p.1).calm.bind fun z => .ok (z, p.2)
def lN (f : List D → Rs (List D)) (a : Am) : Am := fun en => (a en).bind fun p => (f p.1).calm.bind fun z => .ok (z, p.2)
def l2 (f : D → D → Rs (List D)) (a b : Em) : Am := fun en => (a en).bind fun p => (b p.2).bind fun q => (f p.1 q.1).calm.bind fun z => .ok (z, q.2)
theorem calm_bind {A B : Type} {x : Rs A} {f : A → Rs B} {P : Rs B → Prop} (hs : ¬ P .stk) (h : P (x.calm.bind f)) : ∃ a, x = .ok a ∧ P (f a) := by
  cases x with
  | ok a => exact ⟨a, rfl, h⟩
  | err c fs => exact (hs h).elim
  | stk => exact (hs h).elim
theorem se_1 {r : V → Hp → VK → Prop} {f : D → Rs D} {ta : TE} {a : Em} (ho : O1 K r f) (h1 : SE K mg E ta a) : SE K mg E (tUn r ta) (e1 f a) := by
  refine ⟨fun F σ en G H Q g h => ?_⟩
  show ta σ H _
  refine se_bind h1 g poE_err id h fun d en1 v G1 H1 p1 g1 s1 d1 => ?_
  obtain ⟨z, ez, pz⟩ := calm_bind (P := PoE K mg (E σ) F σ G Q) id p1
  exact ho.run G1 H1 v d z g1.gf.gh d1 ez Q fun u G2 H2 f2 du => pz u G2 H2 (g1.grow f2) (s1.trans f2.g0) du
theorem se_2 {r : R2} {f : D → D → Rs D} {ta tb : TE} {a b : Em} (ho : O2 K r f) (h1 : SE K mg E ta a) (h2 : SE K mg E tb b) : SE K mg E (tOp r ta tb) (e2 f a b) := by
  refine ⟨fun F σ en G H Q g h => ?_⟩
  show ta σ H _
  refine se_bind h1 g poE_err id h fun d en1 v G1 H1 p1 g1 s1 d1 => ?_
  refine se_bind h2 g1 poE_err id p1 fun e en2 u G2 H2 p2 g2 s2 d2 => ?_
  obtain ⟨z, ez, pz⟩ := calm_bind (P := PoE K mg (E σ) F σ G Q) id p2
  exact ho.run G2 H2 v u d e z g2.gf.gh (dp_mono s2 _ _ d1) d2 ez Q fun w G3 H3 f3 dw => pz w G3 H3 (g2.grow f3) ((s1.trans s2).trans f3.g0) dw
theorem se_n {r : List V → Hp → VK → Prop} {f : List D → Rs D} {ta : TA} {a : Am} (ho : ON K r f) (h1 : SA K mg E ta a) : SE K mg E (tCB r ta) (eN f a) := by
  refine ⟨fun F σ en G H Q g h => ?_⟩
  refine sa_bind h1 g poE_err id h fun ds en1 vs G1 H1 p1 g1 s1 d1 => ?_
  obtain ⟨z, ez, pz⟩ := calm_bind (P := PoE K mg (E σ) F σ G Q) id p1
  exact ho.run G1 H1 vs ds z g1.gf.gh d1 ez Q fun u G2 H2 f2 du => pz u G2 H2 (g1.grow f2) (s1.trans f2.g0) du
theorem sl_n {r : List V → Hp → VK → Prop} {f : List D → Rs (List D)} {ta : TA} {a : Am} (ho : OL K r f) (h1 : SA K mg E ta a) : SL K mg E (tCB r ta) (lN f a) := by
  refine ⟨fun F σ en G H Q g h => ?_⟩
  refine sa_bind h1 g poL_err id h fun ds en1 vs G1 H1 p1 g1 s1 d1 => ?_
  obtain ⟨z, ez, pz⟩ := calm_bind (P := PoL K mg (E σ) F σ G Q) id p1
  exact ho.run G1 H1 vs ds z g1.gf.gh d1 ez Q fun p us G2 H2 f2 hp h3 h4 h5 => pz p us G2 H2 (g1.grow f2) (s1.trans f2.g0) h3 h4 h5 (h0_new g1 hp) (free_new g1 hp f2)
def tmB (a : Em) : Tm := fun en => (a en).bind fun p => match p.1 with
  | .bool b => .ok (b, p.2)
  | _ => .stk
theorem st_B {te : TE} {a : Em} (h1 : SE K mg E te a) : ST K mg E (tB te) (tmB a) := by
  refine ⟨fun F σ en G H Q g h => ?_⟩
  refine se_bind h1 g poT_err id h fun d en1 v G1 H1 p1 g1 s1 d1 => ?_
  split at p1
  · rename_i b e
    have e' : d = .bool b := e
    subst e'
    cases d1
    exact ⟨b, rfl, p1 G1 H1 g1 s1⟩
  · exact p1.elim
theorem st_test {te : TE} {a : Em} (h1 : SE K mg E te a) : ST K mg E (tTest te) (tmB a) := ⟨fun F σ en G H Q g h => (st_B h1).run F σ en G H Q g h⟩
/-- a value's truth -/
def tru : D → Rs Bool
  | .none => .ok false
  | .bool b => .ok b
  | .int i => .ok (i != 0)
  | .list xs => .ok (!xs.isEmpty)
  | .tuple xs => .ok (!xs.isEmpty)
  | _ => .stk
def tmTru (a : Em) : Tm := fun en => (a en).bind fun p => (tru p.1).calm.bind fun b => .ok (b, p.2)
theorem dpa_isEmpty {vs : List V} {ds : List D} (h : DpAll K G vs ds) : vs.isEmpty = ds.isEmpty := by cases h <;> rfl
theorem st_tru {te : TE} {a : Em} (h1 : SE K mg E te a) : ST K mg E (fun σ H Q => te σ H fun x H' => ∃ k, TruV K x H' k ∧ Q k H') (tmTru a) := by
  refine ⟨fun F σ en G H Q g h => ?_⟩
  refine se_bind h1 g poT_err id h fun d en1 v G1 H1 p1 g1 s1 d1 => ?_
  obtain ⟨b, eb, pb⟩ := calm_bind (P := PoT K mg (E σ) F σ G Q) id p1
  refine ⟨b, ?_, pb G1 H1 g1 s1⟩
  have dH := dp_mono g1.gf.gh _ _ d1
  cases d with
  | none => cases dH; cases eb; rfl
  | bool c => cases dH; cases eb; rfl
  | int i => cases dH; cases eb; rfl
  | str x => cases eb
  | list xs =>
    cases eb
    cases dH with
    | lst hs ha => exact .inl ⟨_, hs, by rw [dpa_isEmpty ha]⟩
  | tuple xs =>
    cases eb
    cases dH with
    | tup hs ha => exact .inr (.inl ⟨_, hs, by rw [dpa_isEmpty ha]⟩)
  | dict kvs => cases eb
def tmAnd (a b : Tm) : Tm := fun en => (a en).bind fun p => if p.1 = true then b p.2 else .ok (false, p.2)
def tmOr (a b : Tm) : Tm := fun en => (a en).bind fun p => if p.1 = true then .ok (true, p.2) else b p.2
def tmNot (a : Tm) : Tm := fun en => (a en).bind fun p => .ok (!p.1, p.2)
theorem PoT.up {Q : Bool → Hp → Prop} {x : Rs (Bool × En)} (s : Same G G') (h : PoT K mg (E σ) F σ G Q x) : PoT K mg (E σ) F σ G' Q x := by
  cases x with
  | ok a => obtain ⟨b, en'⟩ := a; exact fun G2 H2 g2 s2 => h G2 H2 g2 (s.trans s2)
  | err c fs => exact h
  | stk => exact h
theorem PoE.up {Q : VK} {x : Rs (D × En)} (s : Same G G') (h : PoE K mg (E σ) F σ G Q x) : PoE K mg (E σ) F σ G' Q x := by
  cases x with
  | ok a => obtain ⟨b, en'⟩ := a; exact fun v G2 H2 g2 s2 d => h v G2 H2 g2 (s.trans s2) d
  | err c fs => exact h
  | stk => exact h
theorem st_and {t u : TT} {a b : Tm} (h1 : ST K mg E t a) (h2 : ST K mg E u b) : ST K mg E (tAnd t u) (tmAnd a b) := by
  refine ⟨fun F σ en G H Q g h => ?_⟩
  show t σ H _
  refine st_bind h1 g poT_err id h fun k en1 G1 H1 p1 g1 s1 => ?_
  cases k with
  | true => exact h2.run F σ en1 G1 H1 Q g1 (PoT.up s1 p1)
  | false => exact p1 G1 H1 g1 s1
theorem st_or {t u : TT} {a b : Tm} (h1 : ST K mg E t a) (h2 : ST K mg E u b) : ST K mg E (tOr t u) (tmOr a b) := by
  refine ⟨fun F σ en G H Q g h => ?_⟩
  show t σ H _
  refine st_bind h1 g poT_err id h fun k en1 G1 H1 p1 g1 s1 => ?_
  cases k with
  | true => exact p1 G1 H1 g1 s1
  | false => exact h2.run F σ en1 G1 H1 Q g1 (PoT.up s1 p1)
theorem st_not {t : TT} {a : Tm} (h1 : ST K mg E t a) : ST K mg E (tNot t) (tmNot a) := by
  refine ⟨fun F σ en G H Q g h => ?_⟩
  show t σ H _
  exact st_bind h1 g poT_err id h fun k en1 G1 H1 p1 g1 s1 => p1 G1 H1 g1 s1
def eAnd (a b : Em) : Em := fun en => (a en).bind fun p => match p.1 with
  | .bool true => b p.2
  | .bool false => .ok (.bool false, p.2)
  | _ => .stk
def eOr (a b : Em) : Em := fun en => (a en).bind fun p => match p.1 with
  | .bool true => .ok (.bool true, p.2)
  | .bool false => b p.2
  | _ => .stk
def eNot (a : Em) : Em := fun en => (a en).bind fun p => match p.1 with
  | .bool b => .ok (.bool (!b), p.2)
  | _ => .stk
theorem se_and {ta tb : TE} {a b : Em} (h1 : SE K mg E ta a) (h2 : SE K mg E tb b) : SE K mg E (tAndV ta tb) (eAnd a b) := by
  refine ⟨fun F σ en G H Q g h => ?_⟩
  show ta σ H _
  refine se_bind h1 g poE_err id h fun d en1 v G1 H1 p1 g1 s1 d1 => ?_
  split at p1
  · rename_i e
    have e' : d = .bool true := e
    subst e'; cases d1
    exact ⟨true, rfl, h2.run F σ en1 G1 H1 Q g1 (PoE.up s1 p1)⟩
  · rename_i e
    have e' : d = .bool false := e
    subst e'; cases d1
    exact ⟨false, rfl, p1 _ G1 H1 g1 s1 (.bl false)⟩
  · exact p1.elim
theorem se_or {ta tb : TE} {a b : Em} (h1 : SE K mg E ta a) (h2 : SE K mg E tb b) : SE K mg E (tOrV ta tb) (eOr a b) := by
  refine ⟨fun F σ en G H Q g h => ?_⟩
  show ta σ H _
  refine se_bind h1 g poE_err id h fun d en1 v G1 H1 p1 g1 s1 d1 => ?_
  split at p1
  · rename_i e
    have e' : d = .bool true := e
    subst e'; cases d1
    exact ⟨true, rfl, p1 _ G1 H1 g1 s1 (.bl true)⟩
  · rename_i e
    have e' : d = .bool false := e
    subst e'; cases d1
    exact ⟨false, rfl, h2.run F σ en1 G1 H1 Q g1 (PoE.up s1 p1)⟩
  · exact p1.elim
theorem se_not {ta : TE} {a : Em} (h1 : SE K mg E ta a) : SE K mg E (tNotV ta) (eNot a) := by
  refine ⟨fun F σ en G H Q g h => ?_⟩
  show ta σ H _
  refine se_bind h1 g poE_err id h fun d en1 v G1 H1 p1 g1 s1 d1 => ?_
  split at p1
  · rename_i b e
    have e' : d = .bool b := e
    subst e'; cases d1
    exact ⟨b, rfl, p1 _ G1 H1 g1 s1 (.bl _)⟩
  · exact p1.elim
def eIf (t : Tm) (a b : Em) : Em := fun en => (t en).bind fun p => if p.1 = true then a p.2 else b p.2
def gmName (j : Nat) : Gm := fun d en => .ok (en.set j (.dat d))
theorem sg_name {j : Nat} : SG K [j] (gName j) (gmName j) := by
  refine ⟨fun F σ en G H v d Q g hd h => ?_⟩
  refine h (σ.set j (some v)) List.length_set (fun k hk => ?_) (g.setDat hd)
  rw [List.getElem?_set_ne (fun z => hk (by simp [z]))]
def gmNames : List Nat → List D → En → Rs En
  | [], [], en => .ok en
  | j :: js, d :: ds, en => gmNames js ds (en.set j (.dat d))
  | _, _, _ => .stk
def gmTup (js : List Nat) : Gm := fun d en => match d with
  | .tuple ds => gmNames js ds en
  | _ => .stk
structure SGs (K : PySem.W.Frag) (js : List Nat) (g : TGs) : Prop where
  run : ∀ F σ en G H vs ds Q, Gd K F G H σ en → DpAll K G vs ds → (match gmNames js ds en with
    | .ok en' => ∀ σ', σ'.length = σ.length → (∀ k, k ∉ js → σ'[k]? = σ[k]?) → Gd K F G H σ' en' → Q σ' H
    | _ => False) → g vs σ H Q
theorem sgs_nil : SGs K [] gNil := by
  refine ⟨fun F σ en G H vs ds Q g hd h => ?_⟩
  cases hd with
  | nil => exact ⟨rfl, h σ rfl (fun _ _ => rfl) g⟩
  | cons _ _ => exact (show False from h).elim
theorem sgs_cons {j : Nat} {js : List Nat} {gs : TGs} (h2 : SGs K js gs) : SGs K (j :: js) (gCons (gName j) gs) := by
  refine ⟨fun F σ en G H vs ds Q g hd h => ?_⟩
  cases hd with
  | nil => exact (show False from h).elim
  | @cons v vs d ds h3 h4 =>
    refine ⟨v, vs, rfl, ?_⟩
    refine h2.run F (σ.set j (some v)) (en.set j (.dat d)) G H vs ds Q (g.setDat h3) h4 ?_
    have h' : (match gmNames js ds (en.set j (.dat d)) with
      | .ok en' => ∀ σ', σ'.length = σ.length → (∀ k, k ∉ j :: js → σ'[k]? = σ[k]?) → Gd K F G H σ' en' → Q σ' H
      | _ => False) := h
    revert h'
    cases gmNames js ds (en.set j (.dat d)) with
    | ok en' => exact fun h' σ' hl hk g' => h' σ' (hl.trans List.length_set) (fun k hk' => by
        rw [hk k (fun z => hk' (List.mem_cons_of_mem _ z)), List.getElem?_set_ne (fun z => hk' (by simp [z]))]) g'
    | err c fs => exact id
    | stk => exact id
theorem gmNames_len : ∀ (js : List Nat) (ds : List D) (en en' : En), gmNames js ds en = .ok en' → js.length = ds.length
  | [], [], _, _, _ => rfl
  | [], _ :: _, _, _, h => by cases h
  | _ :: _, [], _, _, h => by cases h
  | j :: js, d :: ds, en, en', h => by rw [List.length_cons, List.length_cons, gmNames_len js ds _ _ h]
theorem sg_tup {js : List Nat} {gs : TGs} {n : Nat} (hn : n = js.length) (h2 : SGs K js gs) : SG K js (gTup K n gs) (gmTup js) := by
  refine ⟨fun F σ en G H v d Q g hd h => ?_⟩
  unfold gmTup at h
  split at h
  · rename_i dd en' e
    split at e
    · rename_i ds
      cases hd with
      | @tup a xs _ hs ha =>
        refine ⟨a, xs, rfl, seqT_mono g.gf.gh hs, ?_, ?_⟩
        · rw [hn, dpa_len ha, gmNames_len _ _ _ _ e]
        · exact h2.run F σ en G H xs ds Q g ha (by rw [e]; exact h)
    · cases e
  · exact h.elim
end
end Mir
end
section
set_option Elab.async false
set_option linter.all false
set_option maxRecDepth 100000
set_option maxHeartbeats 4000000
namespace Mir
open PySem PySem.Spec PyProof.Rows L2
section
variable {K : PySem.W.Frag} {mg : Str → Option Value} {E : XK} {F : Fm} {σ : L2.St} {G G' H H' : Hp} {en : En}
theorem itOk_range {lo : Int} {n : Nat} : ItOk K G (Itr lo n) ((List.range n).map fun i => PyData.int (lo + (i : Nat))) := by
  intro i G1 H1 s1 s2
  refine ⟨fun d e => ?_, fun e => ?_⟩
  · have hi : i < n := by
      have := (List.getElem?_eq_some_iff.mp e).1
      simpa using this
    rw [List.getElem?_map, List.getElem?_range hi] at e
    cases e
    refine ⟨hi, fun x H2 y => ?_⟩
    obtain ⟨rfl, rfl⟩ := y
    exact ⟨G1, gf0_refl s2, .int _⟩
  · have := List.getElem?_eq_none_iff.mp e
    show n ≤ i
    simpa using this
end
section
variable {K : PySem.W.Frag} {mg : Str → Option Value} {E : XK} {F : Fm} {σ : L2.St} {G G' H H' : Hp} {en : En}
def mNext : Sm := fun en => .ok (.nx, en)
def mSeq (a b : Sm) : Sm := fun en => (a en).bind fun p => match p.1 with
  | .nx => b p.2
  | f => .ok (f, p.2)
theorem ss_next : SS K mg E tNext mNext := ⟨fun F σ en G H D g h => h σ G H g (Same.refl _)⟩
theorem ss_seq {t u : TS} {a b : Sm} (h1 : SS K mg E t a) (h2 : SS K mg E u b) : SS K mg E (tSeq t u) (mSeq a b) := by
  refine ⟨fun F σ en G H D g h => ?_⟩
  refine h1.run F σ en G H _ g ?_
  unfold mSeq at h
  cases q : a en with
  | ok x =>
    obtain ⟨f, en1⟩ := x
    rw [q] at h
    cases f with
    | nx => exact fun σ' G' H' g' s' => h2.run F σ' en1 G' H' D g' (PoS.up s' h)
    | bk => exact h
    | ct => exact h
    | rt d => exact h
  | err c fs => rw [q] at h; exact h
  | stk => rw [q] at h; exact h
def mBreak : Sm := fun en => .ok (.bk, en)
def mCont : Sm := fun en => .ok (.ct, en)
def mDrop (m : Em) : Sm := fun en => (m en).bind fun p => .ok (.nx, p.2)
theorem ss_drop {te : TE} {m : Em} (h1 : SE K mg (fun _ => E) te m) : SS K mg E (tDrop te) (mDrop m) := by
  refine ⟨fun F σ en G H D g h => ?_⟩
  show te σ H _
  exact se_bind h1 g poS_err id h fun d en1 v G1 H1 p1 g1 s1 d1 => p1 σ G1 H1 g1 s1
def mRet (m : Em) : Sm := fun en => (m en).bind fun p => .ok (.rt p.1, p.2)
theorem ss_ret {te : TE} {m : Em} (h1 : SE K mg (fun _ => E) te m) : SS K mg E (tRet te) (mRet m) := by
  refine ⟨fun F σ en G H D g h => ?_⟩
  show te σ H _
  exact se_bind h1 g poS_err id h fun d en1 v G1 H1 p1 g1 s1 d1 => p1 v σ G1 H1 g1 s1 d1
def mRetN : Sm := fun en => .ok (.rt .none, en)
/-- a = e -/
def mAsg (gm : Gm) (m : Em) : Sm := fun en => (m en).bind fun p => (gm p.1 p.2).calm.bind fun e => .ok (.nx, e)
theorem ss_asg {te : TE} {m : Em} {js : List Nat} {gt : TG} {gm : Gm} (h1 : SE K mg (fun _ => E) te m) (h2 : SG K js gt gm) : SS K mg E (tAsg te gt) (mAsg gm m) := by
  refine ⟨fun F σ en G H D g h => ?_⟩
  show te σ H _
  refine se_bind h1 g poS_err id h fun d en1 v G1 H1 p1 g1 s1 d1 => ?_
  obtain ⟨en2, e2, p2⟩ := calm_bind (P := PoS K mg E F G D) id p1
  refine h2.run F σ en1 G1 H1 v d _ g1 d1 ?_
  rw [show gm d en1 = .ok en2 from e2]
  exact fun σ' _ _ g' => p2 σ' G1 H1 g' s1
/-- a = a new list, which stays the name's own -/
def mAsgO (i : Nat) (m : Am) : Sm := fun en => (m en).bind fun p => .ok (.nx, p.2.set i (.own (.lst p.1)))
theorem ss_asgO {i : Nat} {te : TE} {m : Am} (h1 : SL K mg (fun _ => E) te m) : SS K mg E (tAsg te (gName i)) (mAsgO i m) := by
  refine ⟨fun F σ en G H D g h => ?_⟩
  show te σ H _
  exact sl_bind h1 g poS_err id h fun ds en1 p vs G1 H1 p1 g1 s1 hg hh hd h0 fr => p1 _ G1 H1 (g1.setOwn hg hh hd (.inr h0) fr) s1
/-- l.append(e), l the name's own list -/
def ownL (en : En) (i : Nat) : Option (List D) := match en[i]? with
  | some (.own (.lst ds)) => some ds
  | _ => none
theorem ownL_some {en : En} {i : Nat} {ds : List D} (h : ownL en i = some ds) : en[i]? = some (.own (.lst ds)) := by
  unfold ownL at h
  split at h
  · cases h; assumption
  · cases h
def mApp (i : Nat) (m : Em) : Sm := fun en => match ownL en i with
  | none => .stk
  | some _ => (m en).bind fun p => match ownL p.2 i with
    | none => .stk
    | some ds => if ds.length < big then .ok (.nx, p.2.set i (.own (.lst (ds ++ [p.1])))) else .stk
theorem ss_app {i : Nat} {te : TE} {m : Em} (h1 : SE K mg (fun _ => E) te m) : SS K mg E (tDrop (tBM K "list" rAppend (tVar i) (tCons te tNil))) (mApp i m) := by
  refine ⟨fun F σ en G H D g h => ?_⟩
  unfold mApp at h
  split at h
  · exact h.elim
  rename_i ds0 e0
  obtain ⟨p, vs, h1', h2, h3, h4, h5⟩ := g.own (ownL_some e0)
  refine ⟨.ref p, h1', .inl ⟨rfl, vs, .inl (.inl h3)⟩, ?_⟩
  show te σ H _
  refine se_bind h1 g poS_err id h fun d en1 v G1 H1 p1 g1 s1 d1 => ?_
  split at p1
  · exact p1.elim
  rename_i ds e1
  split at p1
  · rename_i hz
    obtain ⟨p', ws, k1, k2, k3, k4, k5⟩ := g1.own (ownL_some e1)
    rw [h1'] at k1; cases k1
    refine ⟨p, ws, v, rfl, rfl, k3, by rw [dpa_len k4]; exact big_lt hz, ?_⟩
    exact p1 σ G1 _ (g1.mut (ownL_some e1) h1' (dpa_app k4 (dpa_one d1))) s1
  · exact p1.elim
/-- l[k] = e -/
def ixI (n : Nat) : D → Option Nat
  | .int k => ixN n k
  | .bool _ => none
  | _ => none
def mSetO (i : Nat) (ix : Em) (m : Em) : Sm := fun en => (m en).bind fun p => match ownL p.2 i with
  | none => .stk
  | some _ => (ix p.2).bind fun q => match ownL q.2 i with
    | none => .stk
    | some ds => match ixI ds.length q.1 with
      | none => .stk
      | some j => .ok (.nx, q.2.set i (.own (.lst (ds.set j p.1))))
theorem ixI_some {n j : Nat} {d : D} (h : ixI n d = some j) : ∃ k, d = .int k ∧ ixN n k = some j := by
  unfold ixI at h
  split at h
  · exact ⟨_, rfl, h⟩
  · cases h
  · cases h
theorem ss_setO {i : Nat} {te ti : TE} {m ix : Em} (h1 : SE K mg (fun _ => E) te m) (h2 : SE K mg (fun _ => E) ti ix) : SS K mg E (tAsg te (gSub (tVar i) ti rSetL)) (mSetO i ix m) := by
  refine ⟨fun F σ en G H D g h => ?_⟩
  show te σ H _
  refine se_bind h1 g poS_err id h fun d en1 v G1 H1 p1 g1 s1 d1 => ?_
  split at p1
  · exact p1.elim
  rename_i ds0 e0
  obtain ⟨p, vs, k1, k2, k3, k4, k5⟩ := g1.own (ownL_some e0)
  refine ⟨.ref p, k1, ?_⟩
  show ti σ H1 _
  refine se_bind h2 g1 poS_err id p1 fun e en2 u G2 H2 p2 g2 s2 d2 => ?_
  split at p2
  · exact p2.elim
  rename_i ds e2
  split at p2
  · exact p2.elim
  rename_i j ej
  obtain ⟨kk, rfl, ek⟩ := ixI_some ej
  cases d2
  obtain ⟨p', ws, l1, l2, l3, l4, l5⟩ := g2.own (ownL_some e2)
  rw [k1] at l1; cases l1
  refine ⟨p, ws, kk, j, rfl, rfl, l3, by rw [dpa_len l4]; exact ek, ?_⟩
  exact p2 σ G2 _ (g2.mut (ownL_some e2) k1 (dpa_set j l4 (dp_mono s2 _ _ d1))) (s1.trans s2)
def mIf (t : Tm) (a b : Sm) : Sm := fun en => (t en).bind fun p => if p.1 = true then a p.2 else b p.2
theorem ss_if {t : TT} {ta tb : TS} {m : Tm} {a b : Sm} (h : ST K mg (fun _ => E) t m) (h1 : SS K mg E ta a) (h2 : SS K mg E tb b) : SS K mg E (tIfS t ta tb) (mIf m a b) := by
  refine ⟨fun F σ en G H D g h0 => ?_⟩
  show t σ H _
  refine st_bind h g poS_err id h0 fun k en1 G1 H1 p1 g1 s1 => ?_
  cases k with
  | true => exact h1.run F σ en1 G1 H1 D g1 (PoS.up s1 p1)
  | false => exact h2.run F σ en1 G1 H1 D g1 (PoS.up s1 p1)
/-- for -/
def forGo (gm : Gm) (b : Sm) : List D → Sm
  | [], en => .ok (.nx, en)
  | d :: ds, en => (gm d en).calm.bind fun en1 => (b en1).bind fun p => match p.1 with
    | .nx => forGo gm b ds p.2
    | .ct => forGo gm b ds p.2
    | .bk => .ok (.nx, p.2)
    | .rt d => .ok (.rt d, p.2)
def mFor (im : Im) (gm : Gm) (b : Sm) : Sm := fun en => (im en).bind fun p => forGo gm b p.1 p.2
theorem drop_some {ds : List D} {i : Nat} {d : D} (h : ds[i]? = some d) : ds.drop i = d :: ds.drop (i + 1) := by
  obtain ⟨hi, e⟩ := List.getElem?_eq_some_iff.mp h
  rw [← e]
  exact List.drop_eq_getElem_cons hi
theorem ss_for {wi : TI} {im : Im} {js : List Nat} {gt : TG} {gm : Gm} {tb : TS} {b : Sm} (h : SI K mg (fun _ => E) wi im) (hg : SG K js gt gm) (hb : SS K mg E tb b) : SS K mg E (tFor wi gt tb) (mFor im gm b) := by
  refine ⟨fun F σ en G H D g h0 => ?_⟩
  show wi σ H _
  refine si_bind h g poS_err id h0 fun ds en1 J G1 H1 p1 g1 s1 it => ?_
  refine ⟨fun i m σ' H' => ∃ G' en', m = ds.length - i ∧ i ≤ ds.length ∧ Gd K F G' H' σ' en' ∧ Same G1 G' ∧ PoS K mg E F G D (forGo gm b (ds.drop i) en'), ⟨ds.length, G1, en1, rfl, Nat.zero_le _, g1, Same.refl _, p1⟩, ?_⟩
  rintro i m σ' H' ⟨G', en', rfl, hi, g', s', p'⟩
  obtain ⟨it1, it2⟩ := it i G' H' s' g'.gf.gh
  cases hd : ds[i]? with
  | none =>
    have hle := List.getElem?_eq_none_iff.mp hd
    rw [List.drop_eq_nil_of_le hle] at p'
    exact .inl ⟨it2 hd, p' σ' G' H' g' (s1.trans s')⟩
  | some d =>
    obtain ⟨go, yl⟩ := it1 d hd
    have hlt := (List.getElem?_eq_some_iff.mp hd).1
    rw [drop_some hd] at p'
    refine .inr ⟨go, fun σ2 H2 => ∃ G2 en2, Gd K F G2 H2 σ2 en2 ∧ Same G1 G2 ∧ PoS K mg E F G D (forGo gm b (ds.drop (i + 1)) en2), fun σ2 H2 ⟨G2, en2, g2, s2, p2⟩ => ⟨ds.length - (i + 1), by omega, G2, en2, rfl, by omega, g2, s2, p2⟩, fun x H2 y => ?_⟩
    obtain ⟨G2, f2, dx⟩ := yl x H2 y
    have g2 := g'.grow f2
    have s2 : Same G1 G2 := s'.trans f2.g0
    obtain ⟨en3, e3, p3⟩ := calm_bind (P := PoS K mg E F G D) id p'
    refine hg.run F σ' en' G2 H2 x d _ g2 dx ?_
    rw [show gm d en' = .ok en3 from e3]
    intro σ3 _ hk g3
    refine hb.run F σ3 en3 G2 H2 _ g3 ?_
    cases qb : b en3 with
    | stk => rw [qb] at p3; exact p3.elim
    | err c fs => rw [qb] at p3; exact p3
    | ok z =>
      obtain ⟨f, en4⟩ := z
      rw [qb] at p3
      cases f with
      | nx => exact fun σ4 G4 H4 g4 s4 => ⟨G4, en4, g4, s2.trans s4, p3⟩
      | ct => exact fun σ4 G4 H4 g4 s4 => ⟨G4, en4, g4, s2.trans s4, p3⟩
      | bk => exact fun σ4 G4 H4 g4 s4 => p3 σ4 G4 H4 g4 ((s1.trans s2).trans s4)
      | rt e => exact fun v σ4 G4 H4 g4 s4 d4 => p3 v σ4 G4 H4 g4 ((s1.trans s2).trans s4) d4
/-- a def that changes nothing: m of its arguments' data -/
def spP (K : PySem.W.Frag) (mg : Str → Option Value) (m : List D → Rs D) : Sp := fun vs H Q E => ∃ G ds, Same G H ∧ DpAll K G vs ds ∧
  match m ds with
  | .ok d => ∀ v G' H', Gf (F0 G H) G' H' → Dp K G' v d → Q v H'
  | .err c fs => ∀ cls dx H', ErrAt K mg (F0 G H) c fs cls dx H' → E cls dx H'
  | .stk => False
def eCall (m : List D → Rs D) (a : Am) : Em := fun en => (a en).bind fun p => (m p.1).bind fun d => .ok (d, p.2)
end
end Mir
end
section
set_option Elab.async false
set_option linter.all false
set_option maxRecDepth 100000
set_option maxHeartbeats 4000000
namespace Mir
open PySem PySem.Spec PyProof.Rows L2
def iSeq (K : PySem.W.Frag) (tl : TE) : TI := fun σ H R => tl σ H fun x H1 => ∃ a, x = .ref a ∧ ((∃ xs, SqL K H1 a xs) ∧ R (Itl K a) H1 ∨ (∃ xs, SqT K H1 a xs) ∧ R (Itt K a) H1)
theorem pi_seq {X : Cx} {tg l : Expr} {tl : TE} (hl : PE X l tl) : PI X tg l (iSeq X.K tl) := by
  refine ⟨fun pins s σ H R I h => ?_⟩
  refine thn (hl.run pins s σ H _ I h) fun v s1 ⟨x, H1, I1, r1, q1⟩ => ?_
  obtain ⟨a, e, q⟩ := q1
  subst e
  cases r1
  rcases q with ⟨⟨xs, hq⟩, q⟩ | ⟨⟨xs, hq⟩, q⟩
  · obtain ⟨its, rv, p, hz⟩ := I1.list hq
    refine wpAny_pyIter_list p.isList ?_
    refine ⟨s1.heap.objs.size, [s1.heap.objs.size], _, _, H1, rfl, I1.kept (t' := s1.toks) fun b o e => Heap.get?_push_of_some _ e, turn_list a _, ⟨_, Heap.get?_push_size _ rfl, rfl, rfl⟩, fun b hb => ?_, q⟩
    have e : b = s1.heap.objs.size := by simpa using hb
    subst e
    exact I1.fpOk (Nat.le_refl _) (I1.hok.fresh (Nat.le_refl _))
  · obtain ⟨its, rv, p, hz⟩ := I1.tuple hq
    refine wpAny_pyIter_tuple (show s1.heap.IsTuple a its.toArray from p) ?_
    refine ⟨s1.heap.objs.size, [s1.heap.objs.size], _, _, H1, rfl, I1.kept (t' := s1.toks) fun b o e => Heap.get?_push_of_some _ e, turn_tuple a _, ⟨_, Heap.get?_push_size _ rfl, rfl, rfl⟩, fun b hb => ?_, q⟩
    have e : b = s1.heap.objs.size := by simpa using hb
    subst e
    exact I1.fpOk (Nat.le_refl _) (I1.hok.fresh (Nat.le_refl _))
section
variable {K : PySem.W.Frag} {mg : Str → Option Value} {E : L2.St → XK} {F : Fm} {σ : L2.St} {G G' H H' : Hp} {en : En}
theorem itOk_tup {a : Addr} {xs : List V} {ds : List D} (hs : SqT K G a xs) (hd : DpAll K G xs ds) : ItOk K G (Itt K a) ds := by
  intro i G1 H1 s1 s2
  have hq : SqT K H1 a xs := seqT_mono s2 (seqT_mono s1 hs)
  refine ⟨fun d e => ?_, fun e => ?_⟩
  · obtain ⟨v, ev, dv⟩ := dpa_get hd e
    refine ⟨⟨xs, v, hq, ev⟩, fun x H2 y => ?_⟩
    obtain ⟨rfl, y⟩ := y
    have : x = v := Option.some.inj ((y xs hq).symm.trans ev)
    subst this
    exact ⟨G1, gf0_refl s2, dp_mono s1 _ _ dv⟩
  · exact ⟨xs, hq, by
      have := dpa_len hd
      have := List.getElem?_eq_none_iff.mp e
      omega⟩
theorem itOk_lst {a : Addr} {xs : List V} {ds : List D} (hs : SqL K G a xs) (hd : DpAll K G xs ds) : ItOk K G (Itl K a) ds := by
  intro i G1 H1 s1 s2
  have hq : SqL K H1 a xs := s2.seq (s1.seq hs)
  refine ⟨fun d e => ?_, fun e => ?_⟩
  · obtain ⟨v, ev, dv⟩ := dpa_get hd e
    refine ⟨⟨xs, v, hq, ev⟩, fun x H2 y => ?_⟩
    obtain ⟨rfl, y⟩ := y
    have : x = v := Option.some.inj ((y xs hq).symm.trans ev)
    subst this
    exact ⟨G1, gf0_refl s2, dp_mono s1 _ _ dv⟩
  · exact ⟨xs, hq, by
      have := dpa_len hd
      have := List.getElem?_eq_none_iff.mp e
      omega⟩
/-- the items of a list or a tuple -/
def itemsOf : D → Rs (List D)
  | .list ds => .ok ds
  | .tuple ds => .ok ds
  | _ => .stk
def imSeq (m : Em) : Im := fun en => (m en).bind fun p => (itemsOf p.1).bind fun ds => .ok (ds, p.2)
theorem si_seq {tl : TE} {m : Em} (h1 : SE K mg E tl m) : SI K mg E (iSeq K tl) (imSeq m) := by
  refine ⟨fun F σ en G H R g h => ?_⟩
  show tl σ H _
  refine se_bind h1 g poI_err id h fun d en1 v G1 H1 p1 g1 s1 d1 => ?_
  cases d with
  | list ds =>
    cases d1 with
    | @lst a xs _ hs ha => exact ⟨a, rfl, .inl ⟨⟨xs, g1.gf.gh.seq hs⟩, p1 _ G1 H1 g1 s1 (itOk_lst hs ha)⟩⟩
  | tuple ds =>
    cases d1 with
    | @tup a xs _ hs ha => exact ⟨a, rfl, .inr ⟨⟨xs, seqT_mono g1.gf.gh hs⟩, p1 _ G1 H1 g1 s1 (itOk_tup hs ha)⟩⟩
  | none => exact (show False from p1).elim
  | bool b => exact (show False from p1).elim
  | int i => exact (show False from p1).elim
  | str x => exact (show False from p1).elim
  | dict kvs => exact (show False from p1).elim
/-- the ints lo, lo + 1, .. -/
def intsD (lo : Int) (n : Nat) : List D := (List.range n).map fun i => PyData.int (lo + (i : Nat))
def rng1 : List D → Rs (List D)
  | [.int n] => if n ≤ 100000 ∧ -100000 ≤ n then .ok (intsD 0 n.toNat) else .stk
  | _ => .stk
def imRng (f : List D → Rs (List D)) (a : Am) : Im := fun en => (a en).bind fun p => (f p.1).bind fun ds => .ok (ds, p.2)
theorem si_rng1 {ta : TA} {a : Am} (h1 : SA K mg E ta a) : SI K mg E (iRng1 ta) (imRng rng1 a) := by
  refine ⟨fun F σ en G H R g h => ?_⟩
  show ta σ H _
  refine sa_bind h1 g poI_err id h fun ds en1 vs G1 H1 p1 g1 s1 d1 => ?_
  have p1' : PoI K mg (E σ) F σ G R ((rng1 ds).bind fun ds => .ok (ds, en1)) := p1
  unfold rng1 at p1'
  split at p1'
  · rename_i n
    split at p1'
    · rename_i hn
      cases d1 with
      | cons a t =>
        cases a
        cases t
        refine ⟨n, rfl, by omega, by omega, p1' _ G1 H1 g1 s1 ?_⟩
        exact itOk_range
    · exact (show False from p1').elim
  · exact (show False from p1').elim
/-- the names vs forgotten (they hold no own thing) -/
def wipeE (en : En) : List Nat → En
  | [] => en
  | v :: vs => (wipeE en vs).set v .un
def noOwn (en : En) (vs : List Nat) : Bool := vs.all fun i => match en[i]? with
  | some (.own _) => false
  | _ => true
/-- behind the block: the names vs are what they were -/
def restE (en en' : En) : List Nat → En
  | [] => en'
  | v :: vs => (restE en en' vs).set v (en.getD v .un)
theorem Gd.wipe {vs : List Nat} (g : Gd K F G H σ en) : Gd K F G H (wipe σ vs) (wipeE en vs) := by
  induction vs with
  | nil => exact g
  | cons v vs ih => exact ih.setUn
theorem wipe_other {σ : L2.St} {k : Nat} : ∀ {vs : List Nat}, k ∉ vs → (wipe σ vs)[k]? = σ[k]?
  | [], _ => rfl
  | v :: vs, h => by
    show ((wipe σ vs).set v none)[k]? = _
    rw [List.getElem?_set_ne (fun z => h (by simp [z])), wipe_other (fun z => h (List.mem_cons_of_mem _ z))]
theorem wipe_at {σ : L2.St} {k : Nat} : ∀ {vs : List Nat}, k ∈ vs → k < σ.length → (wipe σ vs)[k]? = some none
  | v :: vs, h, hk => by
    show ((wipe σ vs).set v none)[k]? = _
    by_cases q : v = k
    · subst q
      rw [List.getElem?_set_self (by rw [wipe_length]; exact hk)]
    · rw [List.getElem?_set_ne q]
      exact wipe_at (by
        rcases List.mem_cons.mp h with z | z
        · exact absurd z.symm q
        · exact z) hk
theorem wipe_eq {σ σ' : L2.St} {vs : List Nat} (hl : σ'.length = σ.length) (h : ∀ k, k ∉ vs → σ'[k]? = (wipe σ vs)[k]?) : wipe σ' vs = wipe σ vs := by
  refine List.ext_getElem? fun k => ?_
  by_cases hk : k ∈ vs
  · by_cases hb : k < σ.length
    · rw [wipe_at hk hb, wipe_at hk (by omega)]
    · rw [List.getElem?_eq_none (by rw [wipe_length]; omega), List.getElem?_eq_none (by rw [wipe_length]; omega)]
  · rw [wipe_other hk, h k hk]
/-- the turns of a comprehension's block -/
def lcGo (vs : List Nat) (gm : Gm) (t : Tm) (m : Em) : List D → Am
  | [], en => .ok ([], en)
  | d :: ds, en => (gm d en).calm.bind fun en1 => (t en1).calm.bind fun p => if p.1 = true then
      (m p.2).calm.bind fun q => (lcGo vs gm t m ds (wipeE q.2 vs)).bind fun r => .ok (q.1 :: r.1, r.2)
    else lcGo vs gm t m ds (wipeE p.2 vs)
def lLc (im : Im) (vs : List Nat) (gm : Gm) (t : Tm) (m : Em) : Am := fun en => (im en).bind fun p => if noOwn p.2 vs = true ∧ p.1.length ≤ big then
    (lcGo vs gm t m p.1 (wipeE p.2 vs)).calm.bind fun r => .ok (r.1, restE p.2 r.2 vs)
  else .stk
theorem bind_is {A B : Type} {x : Rs A} {f : A → Rs B} {b : B} (h : x.bind f = .ok b) : ∃ a, x = .ok a ∧ f a = .ok b := by
  cases x with
  | ok a => exact ⟨a, rfl, h⟩
  | err c fs => cases h
  | stk => cases h
theorem calm_is {A B : Type} {x : Rs A} {f : A → Rs B} {b : B} (h : x.calm.bind f = .ok b) : ∃ a, x = .ok a ∧ f a = .ok b := by
  cases x with
  | ok a => exact ⟨a, rfl, h⟩
  | err c fs => cases h
  | stk => cases h
/-- nobody's object changes -/
theorem Gd.other {p : Addr} {o : HO} (g : Gd K F G H σ en) (hg : G p = none) (h0 : F.H0 p = none) (fr : Free K G H σ en p) : Gd K F G (upd H p o) σ en ∧ Free K G (upd H p o) σ en p := by
  obtain ⟨om, s⟩ := g.sat
  have keep : ∀ {i : Nat} {v : V} {mo : MO} {as : List Addr}, en[i]? = some (SV.own mo) → σ[i]? = some (some v) → Own K G H v mo as → Own K G (upd H p o) v mo as := fun {i v mo as} e1 e2 ow =>
    ow.keep (Same.refl _) (fun a ha => (ow.live a ha).2) fun a ha x hx => by
      have q : a ≠ p := fun z => fr _ _ _ _ e1 e2 ow (by rw [← z]; exact ha)
      rw [upd_ne q]; exact hx
  refine ⟨⟨⟨g.gf.g0, fun a x e => ?_, g.gf.nf, fun a x e hz => ?_, fun a h => ?_⟩, g.len, ⟨om, fun i sv e => ?_⟩, fun i0 mo hm e => ?_⟩, fun i mo v as e1 e2 ow => ?_⟩
  · have : a ≠ p := fun z => by rw [z, hg] at e; cases e
    rw [upd_ne this]; exact g.gf.gh a x e
  · have : a ≠ p := fun z => by rw [z, h0] at e; cases e
    rw [upd_ne this]; exact g.gf.pres a x e hz
  · by_cases q : a = p
    · subst q; rw [upd_same]; exact fun z => by cases z
    · rw [upd_ne q]; exact g.gf.live a h
  · have q := s i sv e
    cases sv with
    | un => trivial
    | dat d => exact q
    | own mo => obtain ⟨v, as, h1, h2, h3⟩ := q; exact ⟨v, as, h1, keep e h1 h2, h3⟩
  · obtain ⟨h1, h2⟩ := g.pin i0 mo hm e
    exact ⟨h1, keep e h1 h2⟩
  · obtain ⟨v', as', k1, k2, k3⟩ := s i _ e1
    rw [e2] at k1; cases k1
    obtain rfl := ow.inj (keep e1 e2 k2)
    exact fr _ _ _ _ e1 e2 k2
theorem noOwn_at {en : En} {vs : List Nat} (h : noOwn en vs = true) {i : Nat} {mo : MO} (hi : i ∈ vs) : en[i]? ≠ some (.own mo) := fun e => by
  have := List.all_eq_true.mp h i hi
  rw [e] at this
  cases this
theorem restE_other {en en' : En} {k : Nat} : ∀ {vs : List Nat}, k ∉ vs → (restE en en' vs)[k]? = en'[k]?
  | [], _ => rfl
  | v :: vs, h => by
    show ((restE en en' vs).set v _)[k]? = _
    rw [List.getElem?_set_ne (fun z => h (by simp [z])), restE_other (fun z => h (List.mem_cons_of_mem _ z))]
theorem restE_len {en en' : En} : ∀ {vs : List Nat}, (restE en en' vs).length = en'.length
  | [] => rfl
  | v :: vs => by
    show ((restE en en' vs).set v _).length = _
    rw [List.length_set, restE_len]
theorem restE_at {en en' : En} {k : Nat} {sv : SV} (hl : en.length = en'.length) : ∀ {vs : List Nat}, k ∈ vs → (restE en en' vs)[k]? = some sv → en[k]? = some sv
  | v :: vs, h, e => by
    have e' : ((restE en en' vs).set v (en.getD v .un))[k]? = some sv := e
    by_cases q : v = k
    · subst q
      by_cases hb : v < en.length
      · rw [List.getElem?_set_self (by rw [restE_len]; omega)] at e'
        rw [← e', List.getD_eq_getElem?_getD, List.getElem?_eq_getElem hb]
        rfl
      · rw [List.getElem?_eq_none (by rw [List.length_set, restE_len]; omega)] at e'
        cases e'
    · rw [List.getElem?_set_ne q] at e'
      exact restE_at hl (by
        rcases List.mem_cons.mp h with z | z
        · exact absurd z.symm q
        · exact z) e'
theorem Gd.rest {vs : List Nat} {en' : En} (g : Gd K F G H σ en) (no : noOwn en vs = true) (s1 : Same G G') (g' : Gd K F G' H' (L2.wipe σ vs) en') : Gd K F G' H' σ (restE en en' vs) := by
  have hl : en.length = en'.length := by rw [g.len, g'.len, wipe_length]
  obtain ⟨om, s⟩ := g.sat
  obtain ⟨om', s'⟩ := g'.sat
  refine ⟨g'.gf, by rw [restE_len, g'.len, wipe_length], ⟨om', fun i sv e => ?_⟩, fun i0 mo hm e => ?_⟩
  · by_cases hi : i ∈ vs
    · have e1 := restE_at hl hi e
      have q := s i sv e1
      cases sv with
      | un => trivial
      | dat d => obtain ⟨v, h1, h2⟩ := q; exact ⟨v, h1, dp_mono s1 _ _ h2⟩
      | own mo => exact absurd e1 (noOwn_at no hi)
    · rw [restE_other hi] at e
      have q := s' i sv e
      rw [wipe_other hi] at q
      exact q
  · by_cases hi : i0 ∈ vs
    · exact absurd (restE_at hl hi e) (noOwn_at no hi)
    · rw [restE_other hi] at e
      obtain ⟨h1, h2⟩ := g'.pin i0 mo hm e
      rw [wipe_other hi] at h1
      exact ⟨h1, h2⟩
/-- what a slot owns keeps clear of what a frame keeps -/
theorem Gd.free {p : Addr} (g : Gd K F G H σ en) (h0 : F.H0 p ≠ none) (hz : ¬ F.Z p) : Free K G H σ en p := by
  intro i mo v as e1 e2 ow hp
  obtain ⟨om, s⟩ := g.sat
  obtain ⟨v', as', k1, k2, k3⟩ := s i _ e1
  rw [e2] at k1; cases k1
  obtain rfl := ow.inj k2
  rcases (k3 p hp).2 with z | z
  · exact hz z
  · exact h0 z
/-- the loop of a block that fills the list at L -/
theorem lc_loop {J : It} {ds : List D} {vs js : List Nat} {gt : TG} {gm : Gm} {tt : TT} {t : Tm} {te : TE} {m : Em} {L : Addr} {acc0 : List V} {da0 ds0 : List D} {en0 enF : En} {Qd : Hp → Prop}
    (hj : ∀ j ∈ js, j ∈ vs) (hg : SG K js gt gm) (ht : ST K mg (fun _ _ _ _ => False) tt t) (hm : SE K mg (fun _ _ _ _ => False) te m)
    (it : ItOk K G J ds) (g0 : Gd K F G H (wipe σ vs) en0) (hGL : G L = none) (h0L : F.H0 L = none) (hHL : H L = some (.lst acc0)) (hd0 : DpAll K G acc0 da0) (fr0 : Free K G H (wipe σ vs) en0 L) (hz0 : acc0.length + ds.length < sizeLine)
    (eF : lcGo vs gm t m ds en0 = .ok (ds0, enF))
    (fin : ∀ G' H' acc, Gd K F G' H' (wipe σ vs) enF → Same G G' → G' L = none → H' L = some (.lst acc) → DpAll K G' acc (da0 ++ ds0) → Free K G' H' (wipe σ vs) enF L → Qd H') :
    ∃ W : Nat → Nat → Hp → Prop, (∃ k, W 0 k H) ∧ ∀ i k H, W i k H → (J.stop i H ∧ Qd H) ∨ (J.go i H ∧ ∃ Nx : Hp → Prop, (∀ H', Nx H' → ∃ k', k' < k ∧ W (i + 1) k' H') ∧ ∀ x H', J.yld i H x H' → gt x (wipe σ vs) H' fun σ2 H2 => wipe σ2 vs = wipe σ vs ∧ tt σ2 H2 fun b H3 =>
      if b = true then te σ2 H3 fun y H4 => ∃ acc, H4 L = some (.lst acc) ∧ acc.length < sizeLine ∧ Nx (upd H4 L (.lst (acc ++ [y]))) else Nx H3) := by
  refine ⟨fun i k H' => ∃ G' en' acc da ds', k = ds.length - i ∧ i ≤ ds.length ∧ Gd K F G' H' (wipe σ vs) en' ∧ Same G G' ∧ G' L = none ∧ H' L = some (.lst acc) ∧ DpAll K G' acc (da0 ++ da) ∧ da.length ≤ i ∧ Free K G' H' (wipe σ vs) en' L ∧
    lcGo vs gm t m (ds.drop i) en' = .ok (ds', enF) ∧ da ++ ds' = ds0, ⟨ds.length, G, en0, acc0, [], ds0, rfl, Nat.zero_le _, g0, Same.refl _, hGL, hHL, by rw [List.append_nil]; exact hd0, Nat.le_refl _, fr0, eF, rfl⟩, ?_⟩
  rintro i k H' ⟨G', en', acc, da, ds', rfl, hi, g', s', hg', hh', hd', hda, fr', e', ea⟩
  obtain ⟨it1, it2⟩ := it i G' H' s' g'.gf.gh
  cases hd : ds[i]? with
  | none =>
    have hle := List.getElem?_eq_none_iff.mp hd
    rw [List.drop_eq_nil_of_le hle] at e'
    have e2 : ds' = [] ∧ enF = en' := by
      have : (Rs.ok (([] : List D), en')) = .ok (ds', enF) := e'
      injection this with this
      injection this with h1 h2
      exact ⟨h1.symm, h2.symm⟩
    obtain ⟨rfl, rfl⟩ := e2
    rw [List.append_nil] at ea
    subst ea
    exact .inl ⟨it2 hd, fin G' H' acc g' s' hg' hh' hd' fr'⟩
  | some d =>
    obtain ⟨go, yl⟩ := it1 d hd
    have hlt := (List.getElem?_eq_some_iff.mp hd).1
    rw [drop_some hd] at e'
    have e'' : ((gm d en').calm.bind fun en1 => (t en1).calm.bind fun p => if p.1 = true then
        (m p.2).calm.bind fun q => (lcGo vs gm t m (ds.drop (i + 1)) (wipeE q.2 vs)).bind fun r => .ok (q.1 :: r.1, r.2)
      else lcGo vs gm t m (ds.drop (i + 1)) (wipeE p.2 vs)) = .ok (ds', enF) := e'
    obtain ⟨en2, q2, e3⟩ := calm_is e''
    obtain ⟨⟨b, en3⟩, q3, e4⟩ := calm_is e3
    refine .inr ⟨go, fun H2 => ∃ G2 en2 acc2 da2 ds2, Gd K F G2 H2 (wipe σ vs) en2 ∧ Same G G2 ∧ G2 L = none ∧ H2 L = some (.lst acc2) ∧ DpAll K G2 acc2 (da0 ++ da2) ∧ da2.length ≤ i + 1 ∧ Free K G2 H2 (wipe σ vs) en2 L ∧
      lcGo vs gm t m (ds.drop (i + 1)) en2 = .ok (ds2, enF) ∧ da2 ++ ds2 = ds0, fun H2 ⟨G2, en2, acc2, da2, ds2, z1, z2, z3, z5, z6, z7, z8, z9, z10⟩ => ⟨ds.length - (i + 1), by omega, G2, en2, acc2, da2, ds2, rfl, by omega, z1, z2, z3, z5, z6, z7, z8, z9, z10⟩, fun x H2 y => ?_⟩
    obtain ⟨G2, f2, dx⟩ := yl x H2 y
    have gR := g'.rebase
    have hz : ¬ (F.re K G' H' (wipe σ vs) en').Z L := by
      rintro ⟨j, mo, v, as, e1, e2, ow, ha⟩
      exact fr' j mo v as e1 e2 ow ha
    have hL0 : (F.re K G' H' (wipe σ vs) en').H0 L ≠ none := by
      show H' L ≠ none
      rw [hh']; exact fun z => by cases z
    have g2 := gR.grow f2
    refine hg.run _ (wipe σ vs) en' G2 H2 x d _ g2 dx ?_
    rw [show gm d en' = .ok en2 from q2]
    intro σ3 hl3 hk3 g3
    have hw : wipe σ3 vs = wipe σ vs := wipe_eq (by rw [hl3, wipe_length]) fun k hk => hk3 k fun z => hk (hj k z)
    refine ⟨hw, ?_⟩
    refine ht.run _ σ3 en2 G2 H2 _ g3 ?_
    rw [show t en2 = .ok (b, en3) from q3]
    intro G4 H4 g4 s4
    have at4 : H4 L = some (.lst acc) := g4.gf.pres L _ hh' hz
    have gn4 : G4 L = none := g4.gf.nf L hL0 hg' hz
    have sG4 : Same G' G4 := f2.g0.trans s4
    cases b with
    | false =>
      have gw := g'.back (g4.wipe (vs := vs))
      rw [hw] at gw
      have e5 : lcGo vs gm t m (ds.drop (i + 1)) (wipeE en3 vs) = .ok (ds', enF) := e4
      have frw := (g4.wipe (vs := vs)).free hL0 hz
      rw [hw] at frw
      exact ⟨G4, wipeE en3 vs, acc, da, ds', gw, s'.trans sG4, gn4, at4, dpa_mono sG4 _ _ hd', by omega, frw, e5, ea⟩
    | true =>
      rw [if_pos rfl]
      have e5 : ((m en3).calm.bind fun q => (lcGo vs gm t m (ds.drop (i + 1)) (wipeE q.2 vs)).bind fun r => .ok (q.1 :: r.1, r.2)) = .ok (ds', enF) := e4
      obtain ⟨⟨z, en4⟩, q5, e6⟩ := calm_is e5
      obtain ⟨⟨dsr, enr⟩, q6, e7⟩ := bind_is e6
      injection e7 with e7
      injection e7 with e8 e9
      have e9' : enr = enF := e9
      subst e9'
      refine hm.run _ σ3 en3 G4 H4 _ g4 ?_
      rw [show m en3 = .ok (z, en4) from q5]
      intro v G5 H5 g5 s5 dv
      have at5 : H5 L = some (.lst acc) := g5.gf.pres L _ hh' hz
      have gn5 : G5 L = none := g5.gf.nf L hL0 hg' hz
      have sG5 : Same G' G5 := sG4.trans s5
      have gw := g'.back (g5.wipe (vs := vs))
      rw [hw] at gw
      have frw := (g5.wipe (vs := vs)).free hL0 hz
      rw [hw] at frw
      have hal := dpa_len hd'
      have hal0 := dpa_len hd0
      rw [List.length_append] at hal
      obtain ⟨ga, fa⟩ := gw.other (o := .lst (acc ++ [v])) gn5 h0L frw
      refine ⟨acc, at5, by omega, G5, wipeE en4 vs, acc ++ [v], da ++ [z], dsr, ga, s'.trans sG5, gn5, upd_same, ?_, by rw [List.length_append]; exact Nat.succ_le_succ hda, fa, q6, ?_⟩
      · rw [← List.append_assoc]
        exact dpa_app (dpa_mono sG5 _ _ hd') (dpa_one dv)
      · rw [← ea, ← e8, List.append_assoc]
        rfl
theorem sl_lc {wi : TI} {im : Im} {vs js : List Nat} {gt : TG} {gm : Gm} {tt : TT} {t : Tm} {te : TE} {m : Em} (h : SI K mg E wi im) (hj : ∀ j ∈ js, j ∈ vs) (hg : SG K js gt gm) (ht : ST K mg (fun _ _ _ _ => False) tt t) (hm : SE K mg (fun _ _ _ _ => False) te m) :
    SL K mg E (tLc wi gt tt te vs) (lLc im vs gm t m) := by
  refine ⟨fun F σ en G H Q g h0 => ?_⟩
  show wi σ H _
  refine si_bind h g poL_err id h0 fun ds en1 J G1 H1 p1 g1 s1 it => ?_
  have p1' : PoL K mg (E σ) F σ G Q (if noOwn en1 vs = true ∧ ds.length ≤ big then (lcGo vs gm t m ds (wipeE en1 vs)).calm.bind fun r => .ok (r.1, restE en1 r.2 vs) else .stk) := p1
  split at p1'
  case isFalse => exact p1'.elim
  rename_i hno
  obtain ⟨no, hlen⟩ := hno
  obtain ⟨⟨all, enF⟩, eF, pF⟩ := calm_bind (P := PoL K mg (E σ) F σ G Q) id p1'
  intro L hL
  have hGL : G1 L = none := Same.free g1.gf.gh hL
  have f := gf0_new (o := .lst []) g1.gf.gh hL
  have gw := (g1.grow f).wipe (vs := vs)
  refine lc_loop (Qd := fun H => Q (.ref L) H) (acc0 := []) (da0 := []) hj hg ht hm it gw hGL (h0_new g1 hL) upd_same .nil (free_new (g1.wipe (vs := vs)) hL f) (by
    show 0 + ds.length < sizeLine
    rw [Nat.zero_add]; exact Nat.lt_of_le_of_lt hlen (by decide)) eF fun G' H' acc g' s' hg' hh' hd' fr' => ?_
  refine pF L acc G' H' (g1.rest no s' g') (s1.trans s') hg' hh' hd' (h0_new g1 hL) fun j mo v as e1 e2 ow => ?_
  by_cases hj' : j ∈ vs
  · have hl : en1.length = enF.length := by rw [g1.len, g'.len, wipe_length]
    exact absurd (restE_at hl hj' e1) (noOwn_at no hj')
  · rw [restE_other hj'] at e1
    exact fr' j mo v as e1 (by rw [wipe_other hj']; exact e2) ow
theorem wipeE_own {en : En} {i : Nat} {mo : MO} : ∀ {vs : List Nat}, (wipeE en vs)[i]? = some (.own mo) → i ∉ vs ∧ en[i]? = some (.own mo)
  | [], h => ⟨by simp, h⟩
  | v :: vs, h => by
    have h' : ((wipeE en vs).set v .un)[i]? = some (.own mo) := h
    by_cases q : v = i
    · subst q
      by_cases hb : v < (wipeE en vs).length
      · rw [List.getElem?_set_self hb] at h'; cases h'
      · rw [List.getElem?_eq_none (by rw [List.length_set]; omega)] at h'; cases h'
    · rw [List.getElem?_set_ne q] at h'
      obtain ⟨h1, h2⟩ := wipeE_own h'
      exact ⟨by simp only [List.mem_cons, not_or]; exact ⟨fun e => q e.symm, h1⟩, h2⟩
theorem free_wipe {p : Addr} {vs : List Nat} (f : Free K G H σ en p) : Free K G H (wipe σ vs) (wipeE en vs) p := by
  intro i mo v as e1 e2 ow
  obtain ⟨h1, h2⟩ := wipeE_own e1
  rw [wipe_other h1] at e2
  exact f i mo v as h2 e2 ow
end
end Mir
end
section
set_option Elab.async false
set_option linter.all false
set_option maxRecDepth 100000
set_option maxHeartbeats 4000000
namespace Mir
open PySem PySem.Spec PyProof.Rows L2
/-- how an exception lies behind a call (the kit has two ways of telling it) -/
class CxK where
  cx : Program → World → CXT
  no : ∀ (P : Program) (w : World) (outer : List Env) (H : Hp) (s : Shared) (u : Value) (s' : Shared), ¬ cx P w outer H s (fun _ _ _ => False) u s'
/-- as FnOk, where no guard stands around the call -/
structure FnG (P : Program) (w : World) (K : PySem.W.Frag) (mg : Str → Option Value) (base : Heap) (C : CXT) (k : Nat) (f : Addr) (fd : FuncData) (ps : List Str) (sp : Sp) : Prop where
  size : ∀ vs H Q E, sp vs H Q E → vs.length = ps.length
  go : ∀ (A : Around) (outer : List Env) (s : Shared) (H : Hp) (args : Args) (us : List Value) (vs : List V) (Q : VK) (E : XK), A.guards = some [] → Room k A → Env0 P w K mg base A outer s H →
    BindsTo s fd args (ps.zip us) → Vals vs us → sp vs H Q E → codeAny (model P w) A (.call (.ref f) args) (CR C outer P w H s Q E) s
section
variable {P : Program} {w : World} {K : PySem.W.Frag} {mg : Str → Option Value} {base : Heap} {x qual : Str} {params : Arguments} {body : List Stmt} {scope : Scope} {dvs : List V} {kws : List (Str × V)} {f : Addr} {fd : FuncData}
/-- a def's body keeps its promise where no guard stands -/
theorem fnG_of {C : CXT} {N ps : List Str} {k : Nat} {sp : Sp} (F : FunD K x qual params body scope dvs kws f fd) (S : FnScope N ps scope) (len : ∀ vs H Q E, sp vs H Q E → vs.length = ps.length)
    (hbody : ∀ (cdv : Value) (A : Around) (outer : List Env) (s : Shared) (H : Hp) (vs : List V) (Q : VK) (E : XK), (A.deeper (envOfC qual scope s.heap.objs.size f cdv)).guards = some [] → Room k (A.deeper (envOfC qual scope s.heap.objs.size f cdv)) → sp vs H Q E →
      ∃ t, PSs (cxOf C P w K mg base N qual scope f cdv A outer s H E) body t ∧ t { nx := fun _ H' => Q .non H', rt := Q } (L2.start N vs) H) : FnG P w K mg base C (k + 1) f fd ps sp := by
  obtain ⟨oc, od, dV, kV, doc, pm, an, cdv, ct, osl, rfl, lk, hcd, _, _⟩ := F.ex
  constructor
  · exact len
  intro A outer s H args us vs Q E hg hr e0 hb r hsp
  have stay : ∀ b o, base.get? b = some o → s.heap.get? b = some o := fun b o e => (e0.bs b o e).1
  have par : ∀ y ∈ ps.zip us, scope.names.lookup y.1 = some .local ∨ (scope.names.lookup y.1 = some .cell ∧ ((cellsFrom (s.heap.objs.size + 1) scope.names []).lookup y.1).isSome = true) := by
    intro y hy
    have hy' : (y.1, y.2) ∈ ps.zip us := hy
    rcases S.par y.1 (List.of_mem_zip hy').1 with q | q
    · exact Or.inl q
    · exact Or.inr ⟨q, PySem.W.cellsFrom_some _ _ _ (Or.inl q)⟩
  have KX : K.In s.heap := e0.mod.kin.keeps stay
  refine codeAny_call_function hr.depth (KX f _ lk) rfl S.co S.gen rfl (PySem.W.codeRec_of KX hcd) (hb _ _ _ _ ?_)
  refine wpAny_newFunctionEnv_cells S.kind par ?_
  rintro env rfl s1 z
  refine ⟨(e0.mod.nolimit.keeps stay).keeps z.toInCall.keep, codeAny_func ?_⟩
  obtain ⟨t, ht, hq⟩ := hbody cdv A outer s H vs Q E hg (hr.deeper _) hsp
  have J0 := inv_start (CX := C) (E := E) S hr.hd e0 (len _ _ _ _ hsp) r z
  refine wpAny_mono (ht.run [] s1 _ H _ J0 hq) ?_ ?_
  · intro fl s' hs
    cases fl with
    | next =>
      obtain ⟨σ', H', J, q⟩ := hs
      exact ⟨.non, H', J.os, J.bare, J.base, J.hok, rfl, q⟩
    | ret u =>
      obtain ⟨v, σ', H', J, rv, q⟩ := hs
      exact ⟨v, H', J.os, J.bare, J.base, J.hok, rv, q⟩
    | brk =>
      obtain ⟨_, _, _, q⟩ := hs
      exact q.elim
    | cont =>
      obtain ⟨_, _, _, q⟩ := hs
      exact q.elim
  · intro e s' hs
    exact hs
end
section
variable {X : Cx} {C : CXT} {k : Nat} {f : Addr} {fd : FuncData} {ps : List Str} {sp : Sp} {E : L2.St → XK} {x : Str} {p pos : Pos} {e : Expr} {es : List Expr} {t : TA}
theorem go_fn {pins : List (Addr × Obj)} {σ : L2.St} {H : Hp} {s : Shared} {Q : VK} {us : List Value} {vs : List V} (F : FnG X.prog X.w X.K X.mg X.base C k f fd ps sp) (hgd : X.A.guards = some []) (hr : Room k X.A) (hb : Binds X.K fd ps []) (hx : PassesAt C X σ (E σ))
    (I : Inv X pins σ H s) (r : Vals vs us) (h : sp vs H Q (E σ)) : wpAny (model X.prog X.w) X.A (call (.ref f) us) (EP X pins σ Q) X.xe s := by
  have hl : (us ++ []).length = ps.length := by
    rw [List.append_nil, ← r.length]
    exact F.size _ _ _ _ h
  have b := hb s us I.kIn hl
  rw [List.append_nil] at b
  refine wpAny_call (codeAny_mono (F.go X.A X.stack s H ⟨us, []⟩ us vs Q (E σ) hgd hr I.env0 b r h) ?_)
  intro rs s' hq
  cases rs with
  | error ev => exact hx pins H s ev s' I hq
  | ok fl =>
    cases fl with
    | ret u => exact I.after hq
    | next => exact (show False from hq).elim
    | brk => exact (show False from hq).elim
    | cont => exact (show False from hq).elim
/-- f(e, ..) -/
def tCallG (sp : Sp) (E : L2.St → XK) (t : TA) : TE := fun σ H Q => t σ H fun vs H1 => sp vs H1 Q (E σ)
theorem pe_callG (F : FnG X.prog X.w X.K X.mg X.base C k f fd ps sp) (hgd : X.A.guards = some []) (hr : Room k X.A) (hg : Gl X x) (hm : X.mg x = some (.ref f)) (hk : PySem.W.keepIn X.K (.ref f) = true) (hb : Binds X.K fd ps []) (hx : ∀ σ, PassesAt C X σ (E σ))
    (ha : PA X (e :: es) t) (hdb : (x == ("__debug__" : Str)) = false := by decide) (he : starEach (e :: es) X.env = (false, eval e X.env) :: starEach es X.env := by rfl) (hpl : (backTo pos (starEach es X.env)).any (·.1) = false := by rfl) :
    PE X (.Call (.Name x p) (e :: es) [] pos) (tCallG sp E t) := by
  constructor
  intro pins s σ H Q I h
  refine wpAny_Call_Name_kw (ld_glob I hg hm ?_ hdb)
  refine PySem.W.callWith_K (h₀ := X.base) I.ok.mod.kin hk (thn (ha.run pos pins s σ H _ I h) ?_) he hpl
  rintro us s1 ⟨vs, H1, I1, r, q⟩
  exact ⟨I1.kIn, go_fn F hgd hr hb (hx σ) I1 r q⟩
end
end Mir
end
section
set_option Elab.async false
set_option linter.all false
set_option maxRecDepth 100000
set_option maxHeartbeats 4000000
namespace Mir
open PySem PySem.Spec PyProof.Rows L2
/-- what a body comes to -/
def endOf (x : Rs (Fl × En)) : Rs (D × En) := x.bind fun p => match p.1 with
  | .rt d => .ok (d, p.2)
  | .nx => .ok (.none, p.2)
  | _ => .stk
def enOf (n : Nat) (ds : List D) : En := ds.map SV.dat ++ List.replicate (n - ds.length) .un
def fnM (n np : Nat) (m : Sm) (ds : List D) : Rs D := if ds.length = np then (endOf (m (enOf n ds))).bind fun p => .ok p.1 else .stk
/-- .. whose first argument is an own source -/
def enOfS (n : Nat) (mo : MO) (ds : List D) : En := .own mo :: (ds.map SV.dat ++ List.replicate (n - (ds.length + 1)) .un)
/-- an entry at which only the source may be changed -/
def FS (G H : Hp) (p : V) (as : List Addr) : Fm := ⟨G, H, (· ∈ as), fun _ => p, fun _ => as⟩
theorem enOfS_own {n : Nat} {mo m1 : MO} {ds : List D} {i : Nat} (h : (enOfS n mo ds)[i]? = some (.own m1)) : i = 0 ∧ m1 = mo := by
  cases i with
  | zero =>
    have h' : some (SV.own mo) = some (SV.own m1) := h
    cases h'
    exact ⟨rfl, rfl⟩
  | succ i =>
    have h' : (ds.map SV.dat ++ List.replicate (n - (ds.length + 1)) .un)[i]? = some (.own m1) := h
    have := List.mem_of_getElem? h'
    rcases List.mem_append.mp this with z | z
    · obtain ⟨d, _, z⟩ := List.mem_map.mp z
      cases z
    · cases List.eq_of_mem_replicate z
section
variable {P : Program} {w : World} {K : PySem.W.Frag} {mg : Str → Option Value} {base : Heap} {x qual : Str} {params : Arguments} {body : List Stmt} {scope : Scope} {f : Addr} {fd : FuncData} {N ps : List Str} {k : Nat}
theorem start_get {vs : List V} {i : Nat} {v : V} (h : vs[i]? = some v) : (L2.start N vs)[i]? = some (some v) := by
  have hi := (List.getElem?_eq_some_iff.mp h).1
  unfold L2.start
  rw [List.getElem?_append_left (by rw [List.length_map]; exact hi), List.getElem?_map, h]
  rfl
theorem enOf_get {n : Nat} {ds : List D} {i : Nat} {sv : SV} (h : (enOf n ds)[i]? = some sv) : sv = .un ∨ ∃ d, ds[i]? = some d ∧ sv = .dat d := by
  unfold enOf at h
  by_cases hi : i < ds.length
  · rw [List.getElem?_append_left (by rw [List.length_map]; exact hi), List.getElem?_map] at h
    cases q : ds[i]? with
    | none => rw [q] at h; cases h
    | some d => rw [q] at h; cases h; exact .inr ⟨d, rfl, rfl⟩
  · rw [List.getElem?_append_right (by rw [List.length_map]; omega)] at h
    left
    have := List.mem_of_getElem? h
    exact List.eq_of_mem_replicate this
theorem gd_start {G H : Hp} {vs : List V} {ds : List D} (gh : Same G H) (hd : DpAll K G vs ds) (hn : vs.length ≤ N.length) : Gd K (F0 G H) G H (L2.start N vs) (enOf N.length ds) := by
  have hl := dpa_len hd
  refine ⟨gf0_refl gh, ?_, ⟨fun _ => 0, fun i sv e => ?_⟩, fun i0 c t e => ?_⟩
  · unfold enOf L2.start
    rw [List.length_append, List.length_append, List.length_map, List.length_map, List.length_replicate, List.length_replicate, hl]
  · rcases enOf_get e with rfl | ⟨d, e1, rfl⟩
    · trivial
    · obtain ⟨v, e2, dv⟩ := dpa_get hd e1
      exact ⟨v, start_get e2, dv⟩
  · rcases enOf_get e with e1 | ⟨d, e1, e2⟩
    · cases e1
    · cases e2
theorem fnP_ok [CxK] {m : Sm} (F : FunD K x qual params body scope [] [] f fd) (S : FnScope N ps scope) (hn : ps.length ≤ N.length)
    (hb : ∀ (cdv : Value) (A : Around) (outer : List Env) (s : Shared) (H : Hp) (E : XK), (A.deeper (envOfC qual scope s.heap.objs.size f cdv)).guards = some [] → Room k (A.deeper (envOfC qual scope s.heap.objs.size f cdv)) →
      ∃ t, PSs (cxOf (CxK.cx P w) P w K mg base N qual scope f cdv A outer s H E) body t ∧ SS K mg E t m) :
    FnG P w K mg base (CxK.cx P w) (k + 1) f fd ps (spP K mg (fnM N.length ps.length m)) := by
  have len : ∀ vs H Q E, spP K mg (fnM N.length ps.length m) vs H Q E → vs.length = ps.length := by
    rintro vs H Q E ⟨G, ds, gh, hd, h⟩
    by_cases q : ds.length = ps.length
    · rw [dpa_len hd, q]
    · have : fnM N.length ps.length m ds = .stk := if_neg q
      rw [this] at h
      exact h.elim
  refine fnG_of F S len fun cdv A outer s H vs Q E hgd hr hsp => ?_
  obtain ⟨t, h1, h2⟩ := hb cdv A outer s H E hgd hr
  refine ⟨t, h1, ?_⟩
  have hlen := len vs H Q E hsp
  obtain ⟨G, ds, gh, hd, h⟩ := hsp
  refine h2.run (F0 G H) _ (enOf N.length ds) G H _ (gd_start gh hd (by omega)) ?_
  have hq : ds.length = ps.length := by rw [← dpa_len hd]; exact hlen
  have e1 : fnM N.length ps.length m ds = (endOf (m (enOf N.length ds))).bind fun p => .ok p.1 := if_pos hq
  rw [e1] at h
  cases q : m (enOf N.length ds) with
  | stk => rw [q] at h; exact h
  | err c fs => rw [q] at h; exact h
  | ok z =>
    obtain ⟨fl, en'⟩ := z
    rw [q] at h
    cases fl with
    | nx => exact fun σ' G' H' g' _ => h .non G' H' g'.gf .non
    | bk => exact h.elim
    | ct => exact h.elim
    | rt d => exact fun v σ' G' H' g' _ dv => h v G' H' g'.gf dv
end
section
variable {K : PySem.W.Frag} {mg : Str → Option Value} {E : L2.St → XK} {F : Fm} {σ : L2.St} {G G' H H' : Hp} {en : En}
theorem se_callD {m : List D → Rs D} {ta : TA} {a : Am} (h1 : SA K mg E ta a) : SE K mg E (tCallG (spP K mg m) E ta) (eCall m a) := by
  refine ⟨fun F σ en G H Q g h => ?_⟩
  show ta σ H _
  refine sa_bind h1 g poE_err id h fun ds en1 vs G1 H1 p1 g1 s1 d1 => ?_
  refine ⟨G1, ds, g1.gf.gh, d1, ?_⟩
  have p1' : PoE K mg (E σ) F σ G Q ((m ds).bind fun d => .ok (d, en1)) := p1
  cases q : m ds with
  | stk => rw [q] at p1'; exact p1'.elim
  | err c fs =>
    rw [q] at p1'
    exact fun cls dx H' e => p1' cls dx H' (ErrAt.back (F' := F0 G1 H1) g1.gf rfl rfl (fun _ z => z.elim) e)
  | ok d =>
    rw [q] at p1'
    exact fun v G' H' f hd => p1' v G' H' (g1.grow f) (s1.trans f.g0) hd
/-- behind a call that changed the source -/
theorem Gd.callM {i : Nat} {v : V} {mo mo' : MO} {as : List Addr} (g : Gd K F G H σ en) (hm : mo.pin = true) (hm1 : mo'.pin1 = true → mo.pin1 = true) (e : en[i]? = some (.own mo)) (hv : σ[i]? = some (some v)) (ow : Own K G H v mo as) (f : Gf (FS G H v as) G' H') (ow' : Own K G' H' v mo' as) :
    Gd K F G' H' σ (en.set i (.own mo')) := by
  obtain ⟨om, s⟩ := g.sat
  have hi : i < en.length := (List.getElem?_eq_some_iff.mp e).1
  obtain ⟨v0, as0, k1, k2, k3⟩ := s i _ e
  rw [hv] at k1; cases k1
  obtain rfl := ow.inj k2
  have keep : ∀ {j : Nat} {u : V} {mo : MO} {bs : List Addr}, j ≠ i → (∀ a ∈ bs, om a = j) → Own K G H u mo bs → Own K G' H' u mo bs := fun {j u mo bs} nj hj o =>
    o.keep f.g0 (fun a ha => f.nf a (o.live a ha).1 (o.live a ha).2 fun z => nj ((hj a ha).symm.trans (k3 a z).1)) fun a ha x hx => f.pres a x hx fun z => nj ((hj a ha).symm.trans (k3 a z).1)
  refine ⟨g.gf.comp f rfl rfl (fun a z => (k3 a z).2), by rw [List.length_set, g.len], ⟨om, fun j sv e1 => ?_⟩, fun i0 m1 h1 e1 => ?_⟩
  · by_cases q : i = j
    · subst q
      rw [List.getElem?_set_self hi] at e1
      cases e1
      exact ⟨v, as, hv, ow', k3⟩
    · rw [List.getElem?_set_ne q] at e1
      have z := s j sv e1
      cases sv with
      | un => trivial
      | dat d => obtain ⟨u, l1, l2⟩ := z; exact ⟨u, l1, dp_mono f.g0 _ _ l2⟩
      | own mo =>
        obtain ⟨u, bs, l1, l2, l3⟩ := z
        exact ⟨u, bs, l1, keep (Ne.symm q) (fun a ha => (l3 a ha).1) l2, l3⟩
  · by_cases q : i = i0
    · subst q
      rw [List.getElem?_set_self hi] at e1
      cases e1
      obtain ⟨r1, r2⟩ := g.pin i mo (h1.elim (fun z => .inl ⟨z.1, hm⟩) fun z => .inr ⟨z.1, hm1 z.2⟩) e
      rw [hv] at r1; cases r1
      obtain r3 := ow.inj r2
      rw [← r3]
      exact ⟨hv, ow'⟩
    · rw [List.getElem?_set_ne q] at e1
      obtain ⟨r1, r2⟩ := g.pin i0 m1 h1 e1
      refine ⟨r1, ?_⟩
      obtain ⟨u, bs, l1, l2, l3⟩ := s i0 _ e1
      rw [r1] at l1; cases l1
      obtain rfl := l2.inj r2
      exact keep (Ne.symm q) (fun a ha => (l3 a ha).1) r2
end
end Mir
end
section
set_option Elab.async false
set_option linter.all false
set_option maxRecDepth 100000
set_option maxHeartbeats 4000000
namespace Mir
open PySem PySem.Spec PyProof.Rows L2
section
variable {K : PySem.W.Frag} {G H : Hp}
theorem gf_id (gh : Same G H) : Gf (F0 G H) G H := gf0_refl gh
def seqD : D → Option (List D)
  | .list ds => some ds
  | .tuple ds => some ds
  | _ => none
theorem seqD_dp {v : V} {d : D} {ds : List D} (gh : Same G H) (h : Dp K G v d) (e : seqD d = some ds) : ∃ a xs, v = .ref a ∧ (SqL K H a xs ∨ SqT K H a xs) ∧ DpAll K G xs ds := by
  cases d with
  | list es =>
    cases e
    cases h with
    | @lst a xs _ hs ha => exact ⟨a, xs, rfl, .inl (gh.seq hs), ha⟩
  | tuple es =>
    cases e
    cases h with
    | @tup a xs _ hs ha => exact ⟨a, xs, rfl, .inr (seqT_mono gh hs), ha⟩
  | none => cases e
  | bool b => cases e
  | int i => cases e
  | str x => cases e
  | dict kvs => cases e
def fI2 (g : Int → Int → D) (d e : D) : Rs D := match d, e with
  | .int i, .int j => .ok (g i j)
  | _, _ => .stk
def fI2c (c : Int → Int → Bool) (g : Int → Int → D) (d e : D) : Rs D := match d, e with
  | .int i, .int j => if c i j = true then .ok (g i j) else .stk
  | _, _ => .stk
theorem int2 {x y : V} {i j : Int} (h1 : Dp K G x (.int i)) (h2 : Dp K G y (.int j)) : x = .int i ∧ y = .int j := by cases h1; cases h2; exact ⟨rfl, rfl⟩
theorem o2_I {g : Int → Int → Int} : O2 K (rI0 fun i j => .int (g i j)) (fI2 fun i j => .int (g i j)) := by
  refine ⟨fun G H x y d e z gh h1 h2 hf Q q => ?_⟩
  unfold fI2 at hf
  split at hf
  · rename_i i j
    cases hf
    obtain ⟨rfl, rfl⟩ := int2 h1 h2
    exact ⟨i, j, rfl, rfl, q _ G H (gf_id gh) (.int _)⟩
  · cases hf
theorem o2_Ic {C : Int → Int → Prop} {c : Int → Int → Bool} {g : Int → Int → Int} (hc : ∀ i j, c i j = true → C i j) : O2 K (rI C fun i j => .int (g i j)) (fI2c c fun i j => .int (g i j)) := by
  refine ⟨fun G H x y d e z gh h1 h2 hf Q q => ?_⟩
  unfold fI2c at hf
  split at hf
  · rename_i i j
    split at hf
    · rename_i hh
      cases hf
      obtain ⟨rfl, rfl⟩ := int2 h1 h2
      exact ⟨i, j, rfl, rfl, hc i j hh, q _ G H (gf_id gh) (.int _)⟩
    · cases hf
  · cases hf
abbrev fSub := fI2 fun i j => .int (i - j)
def okMul (i j : Int) : Bool := decide (i.natAbs.log2 < 60000000) && decide (j.natAbs.log2 < 60000000)
abbrev fMul := fI2c okMul fun i j => .int (i * j)
def okDiv (_ j : Int) : Bool := decide (0 < j) && decide (j.natAbs.log2 < 9000)
abbrev fDiv := fI2c okDiv fun i j => .int (i / j)
def okMod (_ j : Int) : Bool := decide (0 < j)
abbrev fMod := fI2c okMod fun i j => .int (i % j)
theorem o_sub : O2 K (rI0 fun i j => .int (i - j)) fSub := o2_I
theorem o_mul : O2 K (rI CMulX fun i j => .int (i * j)) fMul := o2_Ic fun i j h => by
  unfold okMul at h
  rw [Bool.and_eq_true] at h
  have h1 := of_decide_eq_true h.1
  have h2 := of_decide_eq_true h.2
  exact mulx_ok Nat.lt_log2_self Nat.lt_log2_self (by omega)
theorem o_div : O2 K (rI CDivW fun i j => .int (i / j)) fDiv := o2_Ic fun i j h => by
  have h' : (decide (0 < j) && decide (j.natAbs.log2 < 9000)) = true := h
  rw [Bool.and_eq_true] at h'
  exact ⟨of_decide_eq_true h'.1, of_decide_eq_true h'.2⟩
theorem o_mod : O2 K (rI (fun _ j => 0 < j) fun i j => .int (i % j)) fMod := o2_Ic fun i j h => of_decide_eq_true h
def fNeg : D → Rs D
  | .int i => .ok (.int (-i))
  | _ => .stk
theorem o_neg : O1 K (rU fun i => .int (-i)) fNeg := by
  refine ⟨fun G H x d z gh h1 hf Q q => ?_⟩
  unfold fNeg at hf
  split at hf
  · cases hf; cases h1; exact ⟨_, rfl, q _ G H (gf_id gh) (.int _)⟩
  · cases hf
def sV : D → Option V
  | .none => some .non
  | .bool b => some (.bl b)
  | .int i => some (.int i)
  | .str x => some (.str x)
  | _ => Option.none
theorem dp_sV {z : D} {w : V} (h : sV z = some w) : Dp K G w z := by
  cases z with
  | none => cases h; exact .non
  | bool b => cases h; exact .bl b
  | int i => cases h; exact .int i
  | str x => cases h; exact .str x
  | list _ => cases h
  | tuple _ => cases h
  | dict _ => cases h
def rD2 (K : PySem.W.Frag) (f : D → D → Rs D) : R2 := fun x y H Q => ∃ d e z w, Dp K H x d ∧ Dp K H y e ∧ f d e = .ok z ∧ sV z = some w ∧ Q w H
theorem o2_D {f : D → D → Rs D} (hf : ∀ d e z, f d e = .ok z → (sV z).isSome = true) : O2 K (rD2 K f) f := by
  refine ⟨fun G H x y d e z gh h1 h2 he Q q => ?_⟩
  obtain ⟨w, hw⟩ := Option.isSome_iff_exists.mp (hf d e z he)
  exact ⟨d, e, z, w, dp_mono gh _ _ h1, dp_mono gh _ _ h2, he, hw, q w G H (gf_id gh) (dp_sV hw)⟩
/-- a yes or no under a condition -/
def yn (c : Bool) (b : Bool) : Rs D := if c = true then .ok (.bool b) else .stk
theorem yn_is {c b : Bool} {z : D} (h : yn c b = .ok z) : c = true ∧ z = .bool b := by
  unfold yn at h
  split at h
  · rename_i hc; cases h; exact ⟨hc, rfl⟩
  · cases h
theorem yn_sV {c b : Bool} {z : D} (h : yn c b = .ok z) : (sV z).isSome = true := by
  obtain ⟨_, rfl⟩ := yn_is h
  rfl
def notNone : D → Bool
  | .none => false
  | _ => true
def okCmp (d e : D) : Bool := PySem.W.alike d e && notNone d && decide (d.depth ≤ 60) && (d.plain && e.plain)
def fLt (d e : D) : Rs D := yn (okCmp d e) (PySem.W.dataLt d e)
def fGt (d e : D) : Rs D := yn (okCmp d e) (PySem.W.dataLt e d)
def fLe (d e : D) : Rs D := yn (okCmp d e) (!PySem.W.dataLt e d)
def fGe (d e : D) : Rs D := yn (okCmp d e) (!PySem.W.dataLt d e)
def okEq (d e : D) : Bool := SeqAt.shaped d && SeqAt.shaped e
def fEq (d e : D) : Rs D := yn (okEq d e) (PyData.eqv d e)
def fNe (d e : D) : Rs D := yn (okEq d e) (!PyData.eqv d e)
def fIn (d e : D) : Rs D := match seqD e with
  | some ds => yn (okEq d e) (ds.any fun z => PyData.eqv z d)
  | none => .stk
def fNotIn (d e : D) : Rs D := match seqD e with
  | some ds => yn (okEq d e) (!ds.any fun z => PyData.eqv z d)
  | none => .stk
theorem okCmp_is {d e : D} (h : okCmp d e = true) : PySem.W.alike d e = true ∧ d ≠ .none ∧ d.depth ≤ 60 ∧ d.plain = true ∧ e.plain = true := by
  unfold okCmp at h
  rw [Bool.and_eq_true, Bool.and_eq_true, Bool.and_eq_true, Bool.and_eq_true] at h
  refine ⟨h.1.1.1, fun z => ?_, of_decide_eq_true h.1.2, h.2.1, h.2.2⟩
  rw [z] at h
  exact absurd h.1.1.2 (by decide)
theorem plain_of_shaped {d : D} (h : SeqAt.shaped d = true) : d.plain = true := PyData.plain_of_canLay0 d (SeqAt.canLay_of_shaped h)
end
section
variable {X : Cx}
theorem cmp_room {A : Around} {d e : D} (hu : A.units + 65 < cLine) (h : d.depth ≤ 60) : A.units + min d.depth e.depth < cLine := by
  have := Nat.min_le_left d.depth e.depth
  omega
theorem op_ltG (hu : X.A.units + 65 < cLine) : OpR X (compareOp .Lt) (rD2 X.K fLt) := by
  intro pins s σ H x y v u Q I rx ry h
  obtain ⟨d, e, z, w, hd, he, hf, hw, q⟩ := h
  obtain ⟨c, rfl⟩ := yn_is hf
  obtain ⟨c1, c2, c3, c4, c5⟩ := okCmp_is c
  obtain ⟨as, r1⟩ := Dp.reads I d x v hd rx c4
  obtain ⟨bs, r2⟩ := Dp.reads I e y u he ry c5
  cases hw
  exact PySem.W.lt_data r1 r2 c1 c2 (cmp_room hu c3) ⟨.bl _, H, I, rfl, q⟩
theorem op_gtG (hu : X.A.units + 65 < cLine) : OpR X (compareOp .Gt) (rD2 X.K fGt) := by
  intro pins s σ H x y v u Q I rx ry h
  obtain ⟨d, e, z, w, hd, he, hf, hw, q⟩ := h
  obtain ⟨c, rfl⟩ := yn_is hf
  obtain ⟨c1, c2, c3, c4, c5⟩ := okCmp_is c
  obtain ⟨as, r1⟩ := Dp.reads I d x v hd rx c4
  obtain ⟨bs, r2⟩ := Dp.reads I e y u he ry c5
  cases hw
  exact PySem.W.gt_data r1 r2 c1 c2 (cmp_room hu c3) ⟨.bl _, H, I, rfl, q⟩
theorem op_leG (hu : X.A.units + 65 < cLine) : OpR X (compareOp .LtE) (rD2 X.K fLe) := by
  intro pins s σ H x y v u Q I rx ry h
  obtain ⟨d, e, z, w, hd, he, hf, hw, q⟩ := h
  obtain ⟨c, rfl⟩ := yn_is hf
  obtain ⟨c1, c2, c3, c4, c5⟩ := okCmp_is c
  obtain ⟨as, r1⟩ := Dp.reads I d x v hd rx c4
  obtain ⟨bs, r2⟩ := Dp.reads I e y u he ry c5
  cases hw
  exact PySem.W.le_data r1 r2 c1 c2 (cmp_room hu c3) ⟨.bl _, H, I, rfl, q⟩
theorem op_geG (hu : X.A.units + 65 < cLine) : OpR X (compareOp .GtE) (rD2 X.K fGe) := by
  intro pins s σ H x y v u Q I rx ry h
  obtain ⟨d, e, z, w, hd, he, hf, hw, q⟩ := h
  obtain ⟨c, rfl⟩ := yn_is hf
  obtain ⟨c1, c2, c3, c4, c5⟩ := okCmp_is c
  obtain ⟨as, r1⟩ := Dp.reads I d x v hd rx c4
  obtain ⟨bs, r2⟩ := Dp.reads I e y u he ry c5
  cases hw
  exact PySem.W.ge_data r1 r2 c1 c2 (cmp_room hu c3) ⟨.bl _, H, I, rfl, q⟩
theorem op_eqG (hu : X.A.units + 65 < cLine) : OpR X (compareOp .Eq) (rD2 X.K fEq) := by
  intro pins s σ H x y v u Q I rx ry h
  obtain ⟨d, e, z, w, hd, he, hf, hw, q⟩ := h
  obtain ⟨c, rfl⟩ := yn_is hf
  have c' : (SeqAt.shaped d && SeqAt.shaped e) = true := c
  rw [Bool.and_eq_true] at c'
  cases hw
  exact op_eqD (by omega) pins s σ H x y v u Q I rx ry ⟨d, e, Dp.toL d x (plain_of_shaped c'.1) hd, Dp.toL e y (plain_of_shaped c'.2) he, c'.1, c'.2, q⟩
theorem op_neG (hu : X.A.units + 65 < cLine) : OpR X (compareOp .NotEq) (rD2 X.K fNe) := by
  intro pins s σ H x y v u Q I rx ry h
  obtain ⟨d, e, z, w, hd, he, hf, hw, q⟩ := h
  obtain ⟨c, rfl⟩ := yn_is hf
  have c' : (SeqAt.shaped d && SeqAt.shaped e) = true := c
  rw [Bool.and_eq_true] at c'
  cases hw
  exact op_neD (by omega) pins s σ H x y v u Q I rx ry ⟨d, e, Dp.toL d x (plain_of_shaped c'.1) hd, Dp.toL e y (plain_of_shaped c'.2) he, c'.1, c'.2, q⟩
theorem op_inG (hu : X.A.units + 65 < cLine) : OpR X (compareOp .In) (rD2 X.K fIn) := by
  intro pins s σ H x y v u Q I rx ry h
  obtain ⟨d, e, z, w, hd, he, hf, hw, q⟩ := h
  unfold fIn at hf
  split at hf
  · rename_i ds hs
    obtain ⟨c, rfl⟩ := yn_is hf
    have c' : (SeqAt.shaped d && SeqAt.shaped e) = true := c
    rw [Bool.and_eq_true] at c'
    obtain ⟨as, r1⟩ := Dp.reads I d x v hd rx (plain_of_shaped c'.1)
    obtain ⟨bs, r2⟩ := Dp.reads I e y u he ry (plain_of_shaped c'.2)
    cases hw
    cases e with
    | list es =>
      cases hs
      exact SeqAt.in_list_reads r2 r1 (SeqAt.canLay_of_shaped c'.2) (SeqAt.canLay_of_shaped c'.1) (room_in_shaped c'.1 hu) ⟨.bl _, H, I, rfl, q⟩
    | tuple es =>
      cases hs
      exact SeqAt.in_tuple_reads r2 r1 (SeqAt.canLay_of_shaped c'.2) (SeqAt.canLay_of_shaped c'.1) (room_in_shaped c'.1 hu) ⟨.bl _, H, I, rfl, q⟩
    | _ => cases hs
  · cases hf
theorem op_notInG (hu : X.A.units + 65 < cLine) : OpR X (compareOp .NotIn) (rD2 X.K fNotIn) := by
  intro pins s σ H x y v u Q I rx ry h
  obtain ⟨d, e, z, w, hd, he, hf, hw, q⟩ := h
  unfold fNotIn at hf
  split at hf
  · rename_i ds hs
    obtain ⟨c, rfl⟩ := yn_is hf
    have c' : (SeqAt.shaped d && SeqAt.shaped e) = true := c
    rw [Bool.and_eq_true] at c'
    obtain ⟨as, r1⟩ := Dp.reads I d x v hd rx (plain_of_shaped c'.1)
    obtain ⟨bs, r2⟩ := Dp.reads I e y u he ry (plain_of_shaped c'.2)
    cases hw
    cases e with
    | list es =>
      cases hs
      exact SeqAt.notIn_list_reads r2 r1 (SeqAt.canLay_of_shaped c'.2) (SeqAt.canLay_of_shaped c'.1) (room_in_shaped c'.1 hu) ⟨.bl _, H, I, rfl, q⟩
    | tuple es =>
      cases hs
      exact SeqAt.notIn_tuple_reads r2 r1 (SeqAt.canLay_of_shaped c'.2) (SeqAt.canLay_of_shaped c'.1) (room_in_shaped c'.1 hu) ⟨.bl _, H, I, rfl, q⟩
    | _ => cases hs
  · cases hf
end
section
variable {K : PySem.W.Frag} {G H : Hp}
theorem o_lt : O2 K (rD2 K fLt) fLt := o2_D fun _ _ _ h => yn_sV h
theorem o_gt : O2 K (rD2 K fGt) fGt := o2_D fun _ _ _ h => yn_sV h
theorem o_le : O2 K (rD2 K fLe) fLe := o2_D fun _ _ _ h => yn_sV h
theorem o_ge : O2 K (rD2 K fGe) fGe := o2_D fun _ _ _ h => yn_sV h
theorem o_eq : O2 K (rD2 K fEq) fEq := o2_D fun _ _ _ h => yn_sV h
theorem o_ne : O2 K (rD2 K fNe) fNe := o2_D fun _ _ _ h => yn_sV h
theorem o_in : O2 K (rD2 K fIn) fIn := o2_D fun d e z h => by
  unfold fIn at h
  split at h
  · exact yn_sV h
  · cases h
theorem o_notIn : O2 K (rD2 K fNotIn) fNotIn := o2_D fun d e z h => by
  unfold fNotIn at h
  split at h
  · exact yn_sV h
  · cases h
/-- x is None, x is True -/
def fIs (d e : D) : Rs D := match e with
  | .none => .ok (.bool (!notNone d))
  | .bool b => match d with
    | .bool c => .ok (.bool (decide (c = b)))
    | _ => .stk
  | _ => .stk
def fIsNot (d e : D) : Rs D := match e with
  | .none => .ok (.bool (notNone d))
  | .bool b => match d with
    | .bool c => .ok (.bool (!decide (c = b)))
    | _ => .stk
  | _ => .stk
theorem dp_non {v : V} {d : D} (h : Dp K G v d) : (v = .non) ↔ notNone d = false := by cases h <;> simp [notNone]
theorem o_is : O2 K (rD2 K fIs) fIs := o2_D fun d e z h => by
  unfold fIs at h
  split at h
  · cases h; rfl
  · split at h
    · cases h; rfl
    · cases h
  · cases h
theorem o_isNot : O2 K (rD2 K fIsNot) fIsNot := o2_D fun d e z h => by
  unfold fIsNot at h
  split at h
  · cases h; rfl
  · split at h
    · cases h; rfl
    · cases h
  · cases h
end
section
variable {X : Cx}
theorem op_isG : OpR X (compareOp .Is) (rD2 X.K fIs) := by
  intro pins s σ H x y v u Q I rx ry h
  obtain ⟨d, e, z, w, hd, he, hf, hw, q⟩ := h
  unfold fIs at hf
  split at hf
  · cases hf
    cases hw
    cases he
    refine op_isN pins s σ H x .non v u Q I rx ry ⟨rfl, ?_⟩
    have e1 : decide (x = V.non) = !notNone d := by
      have := dp_non hd
      cases q1 : notNone d with
      | true => simp [this, q1]
      | false => simp [this, q1]
    rw [e1]
    exact q
  · split at hf
    · cases hf
      cases hw
      cases he
      cases hd
      exact op_is_bl pins s σ H _ _ v u Q I rx ry ⟨_, _, rfl, rfl, q⟩
    · cases hf
  · cases hf
theorem op_isNotG : OpR X (compareOp .IsNot) (rD2 X.K fIsNot) := by
  intro pins s σ H x y v u Q I rx ry h
  obtain ⟨d, e, z, w, hd, he, hf, hw, q⟩ := h
  unfold fIsNot at hf
  split at hf
  · cases hf
    cases hw
    cases he
    refine op_notN pins s σ H x .non v u Q I rx ry ⟨rfl, ?_⟩
    have e1 : (!decide (x = V.non)) = notNone d := by
      have := dp_non hd
      cases q1 : notNone d with
      | true => simp [this, q1]
      | false => simp [this, q1]
    rw [e1]
    exact q
  · split at hf
    · cases hf
      cases hw
      cases he
      cases hd
      exact op_isnot_bl pins s σ H _ _ v u Q I rx ry ⟨_, _, rfl, rfl, q⟩
    · cases hf
  · cases hf
def rAddL (K : PySem.W.Frag) : R2 := fun x y H Q => ∃ l b xs zs, x = .ref l ∧ y = .ref b ∧ SqL K H l xs ∧ SqL K H b zs ∧ xs.length + zs.length ≤ sizeLine ∧ ∀ p, H p = none → Q (.ref p) (upd H p (.lst (xs ++ zs)))
theorem op_addL : OpR X (binaryOp .Add) (rAddL X.K) := by
  intro pins s σ H x y v u Q I rx ry h
  obtain ⟨l, b, xs, zs, rfl, rfl, hH, hB, hz, q⟩ := h
  cases rx
  cases ry
  obtain ⟨its, r, ⟨⟨cls, dd, data, sl⟩, n, e, hc, hd, hs⟩, z1⟩ := I.list hH
  obtain ⟨its2, r2, ⟨⟨cls2, dd2, data2, sl2⟩, n2, e2, hc2, hd2, hs2⟩, z2⟩ := I.list hB
  have hl := r.length
  have hl2 := r2.length
  simp only at hc hd hs hc2 hd2 hs2
  subst hc hd hs hc2 hd2 hs2
  have ea : its.toArray ++ its2.toArray = (its ++ its2).toArray := by simp
  refine PySem.concat_meets ⟨_, e, rfl⟩ ⟨_, e2, rfl⟩ noFill_list_add seq_list_add PySem.F.slot_list_add PySem.F.entry_list_add (PySem.F.args_list_add_2 _ _) (list_addW l b its.toArray its2.toArray n n2 none none sl sl2 (by rw [List.size_toArray, List.size_toArray]; omega)) ⟨e, e2, ?_⟩
  rw [ea]
  refine ⟨.ref s.heap.objs.size, _, I.laid (t' := s.toks) (o := .lst (xs ++ zs)) (fun b ob q => Heap.get?_push_of_some _ q) (Nat.le_refl _) ?_, rfl, q _ (I.hok.fresh (Nat.le_refl _))⟩
  exact ⟨by rw [List.length_append]; exact hz, _, 0, r.append r2, Heap.get?_push_size _ rfl⟩
def rAdd3 (K : PySem.W.Frag) : R2 := fun x y H Q => (rI0 fun i j => .int (i + j)) x y H Q ∨ rCatA K x y H Q ∨ rAddL K x y H Q
theorem op_add3 : OpR X (binaryOp .Add) (rAdd3 X.K) := by
  intro pins s σ H x y v u Q I rx ry h
  rcases h with h | h | h
  · exact op_add pins s σ H x y v u Q I rx ry h
  · exact op_catA pins s σ H x y v u Q I rx ry h
  · exact op_addL pins s σ H x y v u Q I rx ry h
end
section
variable {K : PySem.W.Frag} {G H : Hp}
def fAdd : D → D → Rs D
  | .int i, .int j => .ok (.int (i + j))
  | .tuple xs, .tuple ys => if xs.length + ys.length ≤ big then .ok (.tuple (xs ++ ys)) else .stk
  | .list xs, .list ys => if xs.length + ys.length ≤ big then .ok (.list (xs ++ ys)) else .stk
  | _, _ => .stk
theorem dpa_nil {vs : List V} {ds : List D} (h : DpAll K G vs ds) : vs = [] ↔ ds = [] := by cases h <;> simp
theorem o_add : O2 K (rAdd3 K) fAdd := by
  refine ⟨fun G H x y d e z gh h1 h2 hf Q q => ?_⟩
  unfold fAdd at hf
  split at hf
  · cases hf
    obtain ⟨rfl, rfl⟩ := int2 h1 h2
    exact .inl ⟨_, _, rfl, rfl, q _ G H (gf_id gh) (.int _)⟩
  · rename_i ds es
    split at hf
    · rename_i hz
      cases hf
      cases h1 with
      | @tup a xs _ hs ha =>
        cases h2 with
        | @tup b ys _ hs2 ha2 =>
          refine .inr (.inl ⟨a, b, xs, ys, rfl, rfl, seqT_mono gh hs, seqT_mono gh hs2, by rw [dpa_len ha, dpa_len ha2]; exact big_line hz, fun e => ?_, fun e1 e2 => ?_, fun e1 e2 p hp => ?_⟩)
          · have e' := (dpa_nil ha).mp e
            rw [e'] at q
            exact q (.ref b) G H (gf_id gh) (.tup hs2 ha2)
          · have e' := (dpa_nil ha2).mp e2
            rw [e', List.append_nil] at q
            exact q (.ref a) G H (gf_id gh) (.tup hs ha)
          · have f := gf0_newG (o := .tup (xs ++ ys)) gh hp
            exact q (.ref p) _ _ f (.tup (.inl (.inl upd_same)) (dpa_mono f.g0 _ _ (dpa_app ha ha2)))
    · cases hf
  · rename_i ds es
    split at hf
    · rename_i hz
      cases hf
      cases h1 with
      | @lst a xs _ hs ha =>
        cases h2 with
        | @lst b ys _ hs2 ha2 =>
          refine .inr (.inr ⟨a, b, xs, ys, rfl, rfl, gh.seq hs, gh.seq hs2, by rw [dpa_len ha, dpa_len ha2]; exact big_line hz, fun p hp => ?_⟩)
          have f := gf0_newG (o := .lst (xs ++ ys)) gh hp
          exact q (.ref p) _ _ f (.lst (.inl (.inl upd_same)) (dpa_mono f.g0 _ _ (dpa_app ha ha2)))
    · cases hf
  · cases hf
end
end Mir
end
section
set_option Elab.async false
set_option linter.all false
set_option maxRecDepth 100000
set_option maxHeartbeats 4000000
namespace Mir
open PySem PySem.Spec PyProof.Rows L2
section
variable {K : PySem.W.Frag} {mg : Str → Option Value} {E : L2.St → XK} {F : Fm} {σ : L2.St} {G G' H H' : Hp} {en : En}
def fIx (d e : D) : Rs D := match seqD d, e with
  | some ds, .int i => match atI ds i with
    | some z => .ok z
    | none => .stk
  | _, _ => .stk
theorem dpa_atI {xs : List V} {ds : List D} {i : Int} {z : D} (h : DpAll K G xs ds) (e : atI ds i = some z) : ∃ v, atI xs i = some v ∧ Dp K G v z := by
  unfold atI at e ⊢
  rw [dpa_len h]
  cases q : ixN ds.length i with
  | none => rw [q] at e; cases e
  | some j =>
    rw [q] at e
    exact dpa_get h e
theorem o_ix : O2 K (rIx K) fIx := by
  refine ⟨fun G H x y d e z gh h1 h2 hf Q q => ?_⟩
  unfold fIx at hf
  split at hf
  · rename_i ds i hd
    split at hf
    · rename_i z' hz
      cases hf
      cases h2
      obtain ⟨a, xs, rfl, hs, ha⟩ := seqD_dp gh h1 hd
      obtain ⟨v, hv, dv⟩ := dpa_atI ha hz
      rcases hs with hs | hs
      · exact .inl ⟨a, xs, i, v, rfl, rfl, hs, hv, q v G H (gf_id gh) dv⟩
      · exact .inr (.inl ⟨a, xs, i, v, rfl, rfl, hs, hv, q v G H (gf_id gh) dv⟩)
    · cases hf
  · cases hf
def fLen : List D → Rs D
  | [d] => match seqD d with
    | some ds => .ok (.int ds.length)
    | none => .stk
  | _ => .stk
theorem dpa1 {vs : List V} {d : D} (h : DpAll K G vs [d]) : ∃ v, vs = [v] ∧ Dp K G v d := by
  cases h with
  | cons a b => cases b; exact ⟨_, rfl, a⟩
theorem dpa2 {vs : List V} {d e : D} (h : DpAll K G vs [d, e]) : ∃ v w, vs = [v, w] ∧ Dp K G v d ∧ Dp K G w e := by
  cases h with
  | cons a b =>
    obtain ⟨w, rfl, h2⟩ := dpa1 b
    exact ⟨_, w, rfl, a, h2⟩
theorem o_len : ON K (fun xs H Q => ∃ p ys, xs = [.ref p] ∧ (SqL K H p ys ∨ SqT K H p ys) ∧ Q (.int ys.length) H) fLen := by
  refine ⟨fun G H xs ds z gh h1 hf Q q => ?_⟩
  unfold fLen at hf
  split at hf
  · split at hf
    · rename_i ds hd
      cases hf
      obtain ⟨v, rfl, h2⟩ := dpa1 h1
      obtain ⟨a, xs, rfl, hs, ha⟩ := seqD_dp gh h2 hd
      refine ⟨a, xs, rfl, hs, ?_⟩
      rw [dpa_len ha]
      exact q _ G H (gf_id gh) (.int _)
    · cases hf
  · cases hf
def fTuple : List D → Rs D
  | [.list ds] => .ok (.tuple ds)
  | [.tuple ds] => .ok (.tuple ds)
  | _ => .stk
theorem o_tuple : ON K (fun xs H Q => ∃ p ys, xs = [.ref p] ∧ ((SqL K H p ys ∧ ∀ l, H l = none → Q (.ref l) (upd H l (.tup ys))) ∨ (SqT K H p ys ∧ Q (.ref p) H))) fTuple := by
  refine ⟨fun G H xs ds z gh h1 hf Q q => ?_⟩
  unfold fTuple at hf
  split at hf
  · cases hf
    obtain ⟨v, rfl, h2⟩ := dpa1 h1
    cases h2 with
    | @lst a ys _ hs ha =>
      refine ⟨a, ys, rfl, .inl ⟨gh.seq hs, fun p hp => ?_⟩⟩
      have f := gf0_newG (o := .tup ys) gh hp
      exact q (.ref p) _ _ f (.tup (.inl (.inl upd_same)) (dpa_mono f.g0 _ _ ha))
  · cases hf
    obtain ⟨v, rfl, h2⟩ := dpa1 h1
    cases h2 with
    | @tup a ys _ hs ha => exact ⟨a, ys, rfl, .inr ⟨seqT_mono gh hs, q (.ref a) G H (gf_id gh) (.tup hs ha)⟩⟩
  · cases hf
def fList : List D → Rs (List D)
  | [d] => match seqD d with
    | some ds => .ok ds
    | none => .stk
  | _ => .stk
theorem o_list : OL K (fun xs H Q => ∃ p ys, xs = [.ref p] ∧ (SqL K H p ys ∨ SqT K H p ys) ∧ ∀ l, H l = none → Q (.ref l) (upd H l (.lst ys))) fList := by
  refine ⟨fun G H xs ds zs gh h1 hf Q q => ?_⟩
  unfold fList at hf
  split at hf
  · split at hf
    · rename_i ds hd
      cases hf
      obtain ⟨v, rfl, h2⟩ := dpa1 h1
      obtain ⟨a, ys, rfl, hs, ha⟩ := seqD_dp gh h2 hd
      exact ⟨a, ys, rfl, hs, fun p hp => q p ys G _ (gf0_new gh hp) hp (Same.free gh hp) upd_same ha⟩
    · cases hf
  · cases hf
def intsOf : List D → Option (List Int)
  | [] => some []
  | .int i :: r => (intsOf r).map (i :: ·)
  | _ :: _ => none
theorem intsOf_is : ∀ {ds : List D} {ns : List Int}, intsOf ds = some ns → ds = ns.map PyData.int
  | [], _, h => by cases h; rfl
  | d :: r, ns, h => by
    cases d with
    | int i =>
      simp only [intsOf, Option.map_eq_some_iff] at h
      obtain ⟨ms, h1, rfl⟩ := h
      rw [intsOf_is h1]
      rfl
    | _ => cases h
@[simp] theorem intsOf_map : ∀ ns : List Int, intsOf (ns.map PyData.int) = some ns
  | [] => rfl
  | n :: ns => by simp [intsOf, intsOf_map ns]
def boolsOf : List D → Option (List Bool)
  | [] => some []
  | .bool i :: r => (boolsOf r).map (i :: ·)
  | _ :: _ => none
theorem boolsOf_is : ∀ {ds : List D} {ns : List Bool}, boolsOf ds = some ns → ds = ns.map PyData.bool
  | [], _, h => by cases h; rfl
  | d :: r, ns, h => by
    cases d with
    | bool i =>
      simp only [boolsOf, Option.map_eq_some_iff] at h
      obtain ⟨ms, h1, rfl⟩ := h
      rw [boolsOf_is h1]
      rfl
    | _ => cases h
@[simp] theorem boolsOf_map : ∀ ns : List Bool, boolsOf (ns.map PyData.bool) = some ns
  | [] => rfl
  | n :: ns => by simp [boolsOf, boolsOf_map ns]
def fSum : List D → Rs D
  | [.list ds] => match intsOf ds with
    | some ns => .ok (.int ns.sum)
    | none => .stk
  | _ => .stk
theorem o_sum : ON K (rSum K) fSum := by
  refine ⟨fun G H xs ds z gh h1 hf Q q => ?_⟩
  unfold fSum at hf
  split at hf
  · split at hf
    · rename_i ds ns hn
      cases hf
      obtain ⟨v, rfl, h2⟩ := dpa1 h1
      cases h2 with
      | @lst a ys _ hs ha =>
        have e := intsOf_is hn
        subst e
        have e2 := dpa_ints ha
        subst e2
        exact ⟨a, ns, rfl, gh.seq hs, q _ G H (gf_id gh) (.int _)⟩
    · cases hf
  · cases hf
def fAll : List D → Rs D
  | [.list ds] => match boolsOf ds with
    | some bs => .ok (.bool (bs.all id))
    | none => .stk
  | _ => .stk
theorem o_all : ON K (rAll K) fAll := by
  refine ⟨fun G H xs ds z gh h1 hf Q q => ?_⟩
  unfold fAll at hf
  split at hf
  · split at hf
    · rename_i ds ns hn
      cases hf
      obtain ⟨v, rfl, h2⟩ := dpa1 h1
      cases h2 with
      | @lst a ys _ hs ha =>
        have e := boolsOf_is hn
        subst e
        have e2 := dpa_bools ha
        subst e2
        exact ⟨a, ns, rfl, gh.seq hs, q _ G H (gf_id gh) (.bl _)⟩
    · cases hf
  · cases hf
def fInt : List D → Rs D
  | [.int i] => .ok (.int i)
  | [.bool b] => .ok (.int (if b then 1 else 0))
  | _ => .stk
theorem o_int : ON K (fun xs H Q => (∃ i, xs = [.int i] ∧ Q (.int i) H) ∨ ∃ k, xs = [.bl k] ∧ Q (.int (if k then 1 else 0)) H) fInt := by
  refine ⟨fun G H xs ds z gh h1 hf Q q => ?_⟩
  unfold fInt at hf
  split at hf
  · cases hf
    obtain ⟨v, rfl, h2⟩ := dpa1 h1
    cases h2
    exact .inl ⟨_, rfl, q _ G H (gf_id gh) (.int _)⟩
  · cases hf
    obtain ⟨v, rfl, h2⟩ := dpa1 h1
    cases h2
    exact .inr ⟨_, rfl, q _ G H (gf_id gh) (.int _)⟩
  · cases hf
inductive Ty | int | bool | tup | lst | str
def Ty.nm : Ty → String
  | .int => "int"
  | .bool => "bool"
  | .tup => "tuple"
  | .lst => "list"
  | .str => "str"
def isi : Ty → D → Bool
  | .int, .int _ => true
  | .int, .bool _ => true
  | .bool, .bool _ => true
  | .tup, .tuple _ => true
  | .lst, .list _ => true
  | .str, .str _ => true
  | _, _ => false
theorem kit_non (t : Ty) : kitB "NoneType" t.nm = some (isi t .none) := by cases t <;> decide +kernel
theorem kit_bool (t : Ty) : kitB "bool" t.nm = some (isi t (.bool true)) := by cases t <;> decide +kernel
theorem kit_int (t : Ty) : kitB "int" t.nm = some (isi t (.int 0)) := by cases t <;> decide +kernel
theorem kit_str (t : Ty) : kitB "str" t.nm = some (isi t (.str Str.empty)) := by cases t <;> decide +kernel
theorem kit_list (t : Ty) : kitB "list" t.nm = some (isi t (.list [])) := by cases t <;> decide +kernel
theorem kit_tuple (t : Ty) : kitB "tuple" t.nm = some (isi t (.tuple [])) := by cases t <;> decide +kernel
theorem kit_dict (t : Ty) : kitB "dict" t.nm = some (isi t (.dict [])) := by cases t <;> decide +kernel
theorem kit_ins {C : Addr} (h : InsOk K C) (t : Ty) (kvs : List (D × D)) : PySem.W.kitOne K (.ref C) (.type t.nm) = some (isi t (.dict kvs)) := by
  have := h.kit
  cases t
  · exact this "int" (by simp)
  · exact this "bool" (by simp)
  · exact this "tuple" (by simp)
  · exact this "list" (by simp)
  · exact this "str" (by simp)
/-- the type of what stands in data -/
inductive TyM (K : PySem.W.Frag) (H : Hp) : V → Value → Prop
  | x {v : V} {t : Value} : TyX K H v t → TyM K H v t
  | dv {a : Addr} {xs : List XV} : H a = some (DVO a xs) → TyM K H (.ref a) (.type "dict")
/-- isinstance(x, c), one class -/
def rIsiM (K : PySem.W.Frag) : List V → Hp → VK → Prop := fun xs H Q => ∃ (x c : V) (t u : Value) (b : Bool), xs = [x, c] ∧ ClsV c u ∧ TyM K H x t ∧ PySem.W.kitOne K t u = some b ∧ Q (.bl b) H
theorem call_isiM {X : Cx} : CallR X (.builtin "isinstance") (rIsiM X.K) := by
  intro pins s σ H xs us Q I r h
  obtain ⟨x, c, t, u, b, rfl, k, ty, e, q⟩ := h
  cases ty with
  | x ty => exact call_isi pins s σ H _ us Q I r ⟨x, c, t, u, b, rfl, k, ty, e, q⟩
  | @dv a xs ha =>
    obtain ⟨u1, u2, rfl, r1, r2⟩ := vals2 r
    have e2 := k.eq r2
    subst e2
    cases (show u1 = Value.ref a from r1)
    obtain ⟨⟨_, _, o, es, ep, h3, h4, h5, h6, h7⟩, _, _⟩ := (show ObjOk X.prog X.w H s.heap a (DVO a xs) from I.hok a _ ha)
    exact PySem.W.kia_one PySem.W.kitx_dict I.kIn ⟨o, h3, h4.1⟩ e (fun z => nomatch z) fun tk => ⟨.bl b, H, I.tok tk, rfl, q⟩
theorem kit_dp {v : V} {d : D} (h : Dp K H v d) (t : Ty) : ∃ T, TyM K H v T ∧ PySem.W.kitOne K T (.type t.nm) = some (isi t d) := by
  cases h with
  | dv hd _ _ => exact ⟨_, .dv hd, kit_ty ((kit_dict t).trans (by cases t <;> rfl))⟩
  | non => exact ⟨_, .x (.base .non), kit_ty (kit_non t)⟩
  | bl b => exact ⟨_, .x (.base (.bl b)), kit_ty ((kit_bool t).trans (by cases t <;> rfl))⟩
  | int i => exact ⟨_, .x (.base (.int i)), kit_ty ((kit_int t).trans (by cases t <;> rfl))⟩
  | str x => exact ⟨_, .x (.base (.str x)), kit_ty ((kit_str t).trans (by cases t <;> rfl))⟩
  | @lst _ _ es hs _ =>
    have k := kit_ty (K := K) ((kit_list t).trans (show some (isi t (.list [])) = some (isi t (.list es)) by cases t <;> rfl))
    rcases hs with hs | ⟨o, its, n, hk, hc, _⟩
    · rcases hs with hs | ⟨o, hs⟩
      · exact ⟨_, .x (.base (.lst hs)), k⟩
      · exact ⟨_, .x (.base (.frz hs)), k⟩
    · exact ⟨_, .x (.kList hk hc), k⟩
  | @tup _ _ es hs _ =>
    have k := kit_ty (K := K) ((kit_tuple t).trans (show some (isi t (.tuple [])) = some (isi t (.tuple es)) by cases t <;> rfl))
    rcases hs with hs | ⟨o, its, n, hk, hc, _⟩
    · rcases hs with hs | ⟨o, hs⟩
      · exact ⟨_, .x (.base (.tup hs)), k⟩
      · exact ⟨_, .x (.fTuple hs), k⟩
    · exact ⟨_, .x (.kTuple hk hc), k⟩
  | ins hi hk _ => exact ⟨_, .x (.base (.ins hi hk.cl hk.ha hk.hn hk.htk hk.hm)), kit_ins hk t _⟩
  | dk hd _ => exact ⟨_, .x (.base (.dK hd)), kit_ty ((kit_dict t).trans (by cases t <;> rfl))⟩
def eIsi (t : Ty) (m : Em) : Em := fun en => (m en).bind fun p => .ok (.bool (isi t p.1), p.2)
theorem se_isi {te : TE} {m : Em} (t : Ty) (h1 : SE K mg E te m) : SE K mg E (tCB (rIsiM K) (tCons te (tCons (tC (.ty t.nm)) tNil))) (eIsi t m) := by
  refine ⟨fun F σ en G H Q g h => ?_⟩
  show te σ H _
  refine se_bind h1 g poE_err id h fun d en1 v G1 H1 p1 g1 s1 d1 => ?_
  have dH := dp_mono g1.gf.gh _ _ d1
  obtain ⟨T, k1, k2⟩ := kit_dp dH t
  exact ⟨v, .ty t.nm, _, _, _, rfl, .ty _, k1, k2, p1 _ G1 H1 g1 s1 (.bl _)⟩
/-- tuple(range(..)), list(range(..)) as data -/
def okRg (a b : Int) : Bool := decide (-1000000 ≤ a) && decide (b ≤ 1000000) && decide (a ≤ 1000000) && decide (-1000000 ≤ b)
theorem rgOk {a b : Int} (h : okRg a b = true) : RgOk a b := by
  unfold okRg at h
  simp only [Bool.and_eq_true, decide_eq_true_eq] at h
  refine ⟨by omega, by omega, by omega, by omega, by omega⟩
def rgD (a b : Int) : List D := (List.range (b - a).toNat).map fun i => PyData.int (a + (i : Nat))
theorem dpa_rg (a b : Int) : DpAll K G (rgV a b) (rgD a b) := by
  have e1 : rgV a b = ((List.range (b - a).toNat).map fun i => (a + (i : Nat) : Int)).map V.int := by simp [rgV, List.map_map, Function.comp_def]
  have e2 : rgD a b = ((List.range (b - a).toNat).map fun i => (a + (i : Nat) : Int)).map PyData.int := by simp [rgD, List.map_map, Function.comp_def]
  rw [e1, e2]
  exact dpa_of_ints _
def eTupR1 (m : Em) : Em := fun en => (m en).bind fun p => match p.1 with
  | .int n => if okRg 0 n = true then .ok (.tuple (rgD 0 n), p.2) else .stk
  | _ => .stk
theorem se_tupR1 {te : TE} {m : Em} (h1 : SE K mg E te m) : SE K mg E (tTupRg (tRg1 te)) (eTupR1 m) := by
  refine ⟨fun F σ en G H Q g h => ?_⟩
  show te σ H _
  refine se_bind h1 g poE_err id h fun d en1 v G1 H1 p1 g1 s1 d1 => ?_
  split at p1
  · rename_i n e
    have e' : d = .int n := e
    subst e'
    split at p1
    · rename_i hr
      cases d1
      refine ⟨n, rfl, rgOk hr, fun p hp => ?_⟩
      have f := gf0_newG (o := .tup (rgV 0 n)) g1.gf.gh hp
      exact p1 (.ref p) _ _ (g1.grow f) (s1.trans f.g0) (.tup (.inl (.inl upd_same)) (dpa_rg 0 n))
    · exact p1.elim
  · exact p1.elim
end
end Mir
end
section
set_option Elab.async false
set_option linter.all false
set_option maxRecDepth 100000
set_option maxHeartbeats 4000000
namespace Mir
open PySem PySem.Spec PyProof.Rows L2
open PySem.W (EachIs SortsAt AllAlike Sortable dataKind dataKind_inv dataKind_some alike alikeAll dataLt)
end Mir
end
section
set_option Elab.async false
set_option linter.all false
set_option maxRecDepth 100000
set_option maxHeartbeats 4000000
namespace Mir
open PySem PySem.Spec PyProof.Rows L2
section
variable {f1 f2 : Str}
def spIni (C : Addr) (f1 f2 : Str) : Sp := fun vs H Q _ => ∃ (a : Addr) (x y : V), vs = [.ref a, x, y] ∧ H a = some (exo a C none) ∧
  ∀ d, H d = none → d ≠ a → Q .non (upd (upd (upd H d (exd d [(f1, x)])) a (exo a C (some d))) d (exd d [(f2, y), (f1, x)]))
def tIni (K : PySem.W.Frag) (f1 f2 : Str) : TS := tSeq (tOst K f1 (tVar 0) (tVar 1)) (tOst K f2 (tVar 0) (tVar 2))
theorem pure_ini {K : PySem.W.Frag} {C : Addr} (T : OexC K C) (h1 : PySem.W.findIn K (.ref C) f1 = some none) (h2 : PySem.W.findIn K (.ref C) f2 = some none) {N : List Str} (hN : N.length = 3) (vs : List V) (H : Hp) (Q : VK) (E : XK) (h : spIni C f1 f2 vs H Q E) :
    tIni K f1 f2 { nx := fun _ H' => Q .non H', rt := Q } (L2.start N vs) H := by
  obtain ⟨a, x, y, rfl, ha, q⟩ := h
  have e : L2.start N [V.ref a, x, y] = [some (.ref a), some x, some y] := by
    unfold L2.start
    simp [hN]
  rw [e]
  refine ⟨x, rfl, .ref a, rfl, a, C, rfl, T, h1, .inl ⟨ha, fun d hd hne => ?_⟩⟩
  refine ⟨y, rfl, .ref a, rfl, a, C, rfl, T, h2, .inr ⟨d, [(f1, x)], upd_same, ?_, by simp, q d hd hne⟩⟩
  rw [upd_ne hne]
  exact upd_same
end
def oexB (K : PySem.W.Frag) (C : Addr) : Bool := (match K.lookup C with
  | some ⟨.type "type", _, .cls cd, sl⟩ => (match cd.mro, sl.toList with
    | .ref C' :: bm, [_, _, _, _, some (.builtin n), _] => decide (C' = C) && (decide (n = "ValueError.__new__") && (!cd.hasDel && (cd.hasDict && PySem.HandSPX.refsVE bm)))
    | _, _ => false)
  | _ => false) && (decide (PySem.W.findIn K (.ref C) "__setattr__" = some (some (.builtin "object.__setattr__"))) && (decide (PySem.W.subIn K (.ref C) (.type "BaseException") = some true) &&
    (decide (PySem.W.typeIn K (.ref C) = some (.type "type")) && PySem.W.keepIn K (.ref C))))
theorem oexB_ok {K : PySem.W.Frag} {C : Addr} (h : oexB K C = true) : OexC K C := by
  unfold oexB at h
  rw [Bool.and_eq_true, Bool.and_eq_true, Bool.and_eq_true, Bool.and_eq_true] at h
  obtain ⟨h0, h1, h2, h3, h4⟩ := h
  refine ⟨?_, of_decide_eq_true h1, of_decide_eq_true h2, of_decide_eq_true h3, h4⟩
  split at h0
  · rename_i dd cd sl ho
    split at h0
    · rename_i C' bm k0 k1 k2 k3 n k5 hm hs
      simp only [Bool.and_eq_true, decide_eq_true_eq, Bool.not_eq_true'] at h0
      obtain ⟨rfl, rfl, hdel, hdc, hv⟩ := h0
      obtain ⟨nm, bs, mro, ns, qn, hd, sn, sub, ab, col, del⟩ := cd
      dsimp only at hm hdel hdc
      subst hm hdel hdc
      have hsl : sl = #[k0, k1, k2, k3, some (.builtin "ValueError.__new__"), k5] := by
        obtain ⟨l⟩ := sl
        simp only at hs
        rw [hs]
      subst hsl
      exact ⟨nm, qn, ns, bs, bm, sn, sub, ab, col, dd, k0, k1, k2, k3, k5, ho, hv⟩
    · cases h0
  · cases h0
section
variable {K : PySem.W.Frag} {mg : Str → Option Value} {E : XK} {F : Fm} {σ : L2.St} {G G' H H' : Hp} {en : En}
def mRaise (c f1 f2 : Str) (a : Am) : Sm := fun en => (a en).bind fun p => match p.1 with
  | [d1, d2] => .err c [(f2, d2), (f1, d1)]
  | _ => .stk
theorem ss_raise {c f1 f2 : Str} {C : Addr} {ta : TA} {a : Am} (hC : mg c = some (.ref C)) (h1 : SA K mg (fun _ => E) ta a) :
    SS K mg E (fun _ σ H => tMkO C (spIni C f1 f2) [] ta σ H fun cls d H' => E cls d H') (mRaise c f1 f2 a) := by
  refine ⟨fun F σ en G H D g h => ?_⟩
  show ta σ H _
  refine sa_bind h1 g poS_err id h fun ds en1 vs G1 H1 p1 g1 s1 d1 => ?_
  split at p1
  · rename_i d1' d2' e
    have e' : ds = [d1', d2'] := e
    subst e'
    obtain ⟨x, y, rfl, dx, dy⟩ := dpa2 d1
    refine ⟨by simp, fun ea hea => ⟨ea, x, y, rfl, upd_same, fun d hd hne => ?_⟩⟩
    have hd1 : H1 d = none := by rw [upd_ne hne] at hd; exact hd
    refine ⟨rfl, d, [(f2, y), (f1, x)], ?_, upd_same, hd1, ?_⟩
    · rw [upd_ne (Ne.symm hne), upd_same]
    · have eH : upd (del (upd (upd (upd (upd H1 ea (exo ea C none)) d (exd d [(f1, x)])) ea (exo ea C (some d))) d (exd d [(f2, y), (f1, x)])) ea) d (.xd [(f2, y), (f1, x)]) = upd H1 d (.xd [(f2, y), (f1, x)]) := by
        funext b
        by_cases q : b = d
        · subst q; rw [upd_same, upd_same]
        · rw [upd_ne q, upd_ne q]
          by_cases q2 : b = ea
          · subst q2; rw [del_same, hea]
          · rw [del_ne q2, upd_ne q, upd_ne q2, upd_ne q, upd_ne q2]
      rw [eH]
      have f := gf0_new (o := .xd [(f2, y), (f1, x)]) g1.gf.gh hd1
      refine p1 _ _ _ ⟨C, d, _, G1, rfl, hC, rfl, g1.gf.comp f rfl rfl (fun _ z => z.elim), h0_new g1 hd1, Same.free g1.gf.gh hd1, upd_same, ?_⟩
      exact .cons ⟨rfl, dy⟩ (.cons ⟨rfl, dx⟩ .nil)
  · exact p1.elim
structure SX (K : PySem.W.Frag) (i : Nat) (a C dd : Addr) (te : TE) (m : List (Str × D) → Rs D) : Prop where
  run : ∀ σ G H xs fs z Q, Same G H → σ[i]? = some (some (.ref a)) → H dd = some (.xd xs) → FsOk K G xs fs → m fs = .ok z → (∀ v G' H', Gf (F0 G H) G' H' → Dp K G' v z → Q v H') → te σ H Q
def xF (f : Str) (fs : List (Str × D)) : Rs D := match fs.lookup f with
  | some d => .ok d
  | none => .stk
theorem fs_lookup {f : Str} : ∀ {xs : List (Str × V)} {fs : List (Str × D)} {d : D}, FsOk K G xs fs → fs.lookup f = some d → ∃ v, xs.lookup f = some v ∧ Dp K G v d
  | _, _, d, .nil, h => by cases h
  | (k, v) :: xs, (k', d') :: fs, d, .cons ⟨e1, e2⟩ t, h => by
    have e1' : k = k' := e1
    subst e1'
    rw [List.lookup_cons] at h ⊢
    by_cases q : (f == k) = true
    · rw [q] at h ⊢
      cases h
      exact ⟨v, rfl, e2⟩
    · rw [Bool.not_eq_true] at q
      rw [q] at h ⊢
      exact fs_lookup t h
theorem fsOk_mono (s : Same G G') : ∀ {xs : List (Str × V)} {fs : List (Str × D)}, FsOk K G xs fs → FsOk K G' xs fs
  | _, _, .nil => .nil
  | _, _, .cons ⟨a, b⟩ t => .cons ⟨a, dp_mono s _ _ b⟩ (fsOk_mono s t)
theorem sx_f {i : Nat} {a C dd : Addr} {f : Str} : SX K i a C dd (tXf a (.ref C) (some dd) C f (tVar i)) (xF f) := by
  refine ⟨fun σ G H xs fs z Q gh hi hd ok e q => ?_⟩
  unfold xF at e
  split at e
  · rename_i d hl
    cases e
    obtain ⟨v, h1, h2⟩ := fs_lookup ok hl
    exact ⟨.ref a, hi, rfl, rfl, dd, xs, v, rfl, hd, h1, q v G H (gf_id gh) h2⟩
  · cases e
theorem gf0_trans {G1 H1 G2 H2 : Hp} (f : Gf (F0 G H) G1 H1) (f2 : Gf (F0 G1 H1) G2 H2) : Gf (F0 G H) G2 H2 := f.comp f2 rfl rfl fun _ z => z.elim
/-- an expression whose errors are caught at slot i -/
def eAt (i : Nat) (m : Em) : Em := fun en => if i < en.length then m en else .stk
end
end Mir
end
section
set_option Elab.async false
set_option linter.all false
set_option maxRecDepth 100000
set_option maxHeartbeats 4000000
namespace Mir
open PySem PySem.Spec PyProof.Rows L2
@[simp] theorem shaped_int (i : Int) : SeqAt.shaped (.int i) = true := by
  show (PyData.canLay0 (.int i) && decide (PyData.depth (.int i) ≤ 64)) = true
  simp [PyData.canLay0, PyData.depth]
@[simp] theorem eqv_int (i j : Int) : PyData.eqv (.int i) (.int j) = decide (i = j) := by
  simp only [PyData.eqv]
  by_cases h : i = j
  · simp [h]
  · simp [h]
@[simp] theorem okEq_int (i j : Int) : okEq (.int i) (.int j) = true := by simp [okEq]
@[simp] theorem fEq_int (i j : Int) : fEq (.int i) (.int j) = .ok (.bool (decide (i = j))) := by simp [fEq, yn]
@[simp] theorem fNe_int (i j : Int) : fNe (.int i) (.int j) = .ok (.bool (!decide (i = j))) := by simp [fNe, yn]
@[simp] theorem okCmp_int (i j : Int) : okCmp (.int i) (.int j) = true := by simp [okCmp, PySem.W.alike, notNone, PyData.depth, PyData.plain]
@[simp] theorem lt_int_D (i j : Int) : PySem.W.dataLt (.int i) (.int j) = decide (i < j) := by rw [PySem.W.dataLt_int]
@[simp] theorem fLt_int (i j : Int) : fLt (.int i) (.int j) = .ok (.bool (decide (i < j))) := by simp [fLt, yn]
@[simp] theorem fGt_int (i j : Int) : fGt (.int i) (.int j) = .ok (.bool (decide (j < i))) := by simp [fGt, yn]
theorem not_lt_D (i j : Int) : (!decide (j < i)) = decide (i ≤ j) := by
  by_cases h : j < i
  · simp [h, Int.not_le.mpr h]
  · simp [h, Int.not_lt.mp h]
@[simp] theorem fLe_int (i j : Int) : fLe (.int i) (.int j) = .ok (.bool (decide (i ≤ j))) := by unfold fLe; rw [okCmp_int, lt_int_D, not_lt_D]; rfl
@[simp] theorem fGe_int (i j : Int) : fGe (.int i) (.int j) = .ok (.bool (decide (j ≤ i))) := by unfold fGe; rw [okCmp_int, lt_int_D, not_lt_D]; rfl
@[simp] theorem fAdd_int (i j : Int) : fAdd (.int i) (.int j) = .ok (.int (i + j)) := rfl
@[simp] theorem fSub_int (i j : Int) : fSub (.int i) (.int j) = .ok (.int (i - j)) := rfl
def permL {A : Type} (perm : List Nat) (l : List A) : List A := perm.filterMap fun i => l[i]?
theorem vals_get : ∀ {vs : List V} {us : List Value} (i : Nat), Vals vs us → (vs[i]? = none ∧ us[i]? = none) ∨ ∃ v u, vs[i]? = some v ∧ us[i]? = some u ∧ RelV v u
  | _, _, _, .nil => .inl ⟨by simp, by simp⟩
  | _, _, 0, .cons r t => .inr ⟨_, _, rfl, rfl, r⟩
  | _, _, i + 1, .cons r t => by simpa using vals_get i t
theorem vals_perm {vs : List V} {us : List Value} (r : Vals vs us) : ∀ perm : List Nat, Vals (permL perm vs) (permL perm us)
  | [] => .nil
  | i :: l => by
    have ih := vals_perm r l
    rcases vals_get i r with ⟨h1, h2⟩ | ⟨v, u, h1, h2, h3⟩
    · unfold permL at ih ⊢
      rw [List.filterMap_cons, List.filterMap_cons, h1, h2]
      exact ih
    · unfold permL at ih ⊢
      rw [List.filterMap_cons, List.filterMap_cons, h1, h2]
      exact .cons h3 ih
theorem dpa_perm {K : PySem.W.Frag} {G : Hp} {vs : List V} {ds : List D} (r : DpAll K G vs ds) : ∀ perm : List Nat, DpAll K G (permL perm vs) (permL perm ds)
  | [] => .nil
  | i :: l => by
    have ih := dpa_perm r l
    unfold permL at ih ⊢
    rw [List.filterMap_cons, List.filterMap_cons]
    cases q : ds[i]? with
    | none =>
      have : vs[i]? = none := by
        rw [List.getElem?_eq_none_iff] at q ⊢
        rw [dpa_len r]
        exact q
      rw [this]
      exact ih
    | some d =>
      obtain ⟨v, h1, h2⟩ := dpa_get r q
      rw [h1]
      exact .cons h2 ih
structure KwB (K : PySem.W.Frag) (fd : FuncData) (ps ks : List Str) (n : Nat) (perm : List Nat) : Prop where
  to : ∀ (s : Shared) (us ws : List Value), K.In s.heap → us.length = n → ws.length = ks.length → BindsTo s fd ⟨us, ks.zip ws⟩ (ps.zip (permL perm (us ++ ws)))
section
variable {K : PySem.W.Frag} {x qual : Str} {params : Arguments} {body : List Stmt} {scope : Scope} {kws : List (Str × V)} {f : Addr} {fd : FuncData} {ps ks : List Str}
theorem kwB_of (F : FunD K x qual params body scope [] kws f fd) (n : Nat) (perm : List Nat)
    (h : ∀ (kV doc pm : Value) (an : Option Addr) (cdv ct : Value) (us ws : List Value), us.length = n → ws.length = ks.length → bindArgs (PySem.W.fnOf x qual params body scope .none kV doc pm an cdv ct) ⟨us, ks.zip ws⟩ = pure (ps.zip (permL perm (us ++ ws)))) : KwB K fd ps ks n perm := by
  obtain ⟨oc, od, dV, kV, doc, pm, an, cdv, ct, osl, rfl, lk, hcd, hD, hK⟩ := F.ex
  rcases hD with ⟨_, rfl⟩ | ⟨e, _⟩
  · exact ⟨fun s us ws _ l1 l2 => .of_eq (h kV doc pm an cdv ct us ws l1 l2)⟩
  · exact absurd rfl e
end
def tCallGK (sp : Sp) (n m : Nat) (perm : List Nat) (E : L2.St → XK) (t tk : TA) : TE := fun σ H Q => t σ H fun vs H1 => tk σ H1 fun zs H2 => vs.length = n ∧ zs.length = m ∧ sp (permL perm (vs ++ zs)) H2 Q (E σ)
section
variable {X : Cx} {C : CXT} {k n : Nat} {f : Addr} {fd : FuncData} {ps ks : List Str} {perm : List Nat} {sp : Sp} {E : L2.St → XK} {x : Str} {p pos : Pos} {e : Expr} {es : List Expr} {kws : List Keyword} {t tk : TA}
theorem go_fnK {pins : List (Addr × Obj)} {σ : L2.St} {H : Hp} {s : Shared} {Q : VK} {us ws : List Value} {vs zs : List V} (F : FnG X.prog X.w X.K X.mg X.base C k f fd ps sp) (hgd : X.A.guards = some []) (hr : Room k X.A) (hb : KwB X.K fd ps ks n perm) (hx : PassesAt C X σ (E σ))
    (I : Inv X pins σ H s) (r : Vals vs us) (rz : Vals zs ws) (l1 : vs.length = n) (l2 : zs.length = ks.length) (h : sp (permL perm (vs ++ zs)) H Q (E σ)) : wpAny (model X.prog X.w) X.A (call (.ref f) us (ks.zip ws)) (EP X pins σ Q) X.xe s := by
  have r2 : Vals (permL perm (vs ++ zs)) (permL perm (us ++ ws)) := vals_perm (r.append rz) perm
  have b := hb.to s us ws I.kIn (r.length.symm.trans l1) (rz.length.symm.trans l2)
  refine wpAny_call (codeAny_mono (F.go X.A X.stack s H ⟨us, ks.zip ws⟩ (permL perm (us ++ ws)) (permL perm (vs ++ zs)) Q (E σ) hgd hr I.env0 b r2 h) ?_)
  intro rs s' hq
  cases rs with
  | error ev => exact hx pins H s ev s' I hq
  | ok fl =>
    cases fl with
    | ret u => exact I.after hq
    | next => exact (show False from hq).elim
    | brk => exact (show False from hq).elim
    | cont => exact (show False from hq).elim
/-- f(k = v, ..) -/
theorem pe_callG0 (F : FnG X.prog X.w X.K X.mg X.base C k f fd ps sp) (hgd : X.A.guards = some []) (hr : Room k X.A) (hg : Gl X x) (hm : X.mg x = some (.ref f)) (hk : PySem.W.keepIn X.K (.ref f) = true) (hb : KwB X.K fd ps ks 0 perm) (hx : ∀ σ, PassesAt C X σ (E σ))
    (hkw : PK X kws tk) (hall : (backToKw pos (keywordEach kws X.env)).all (·.1.isSome) = true := by rfl) (hks : (backToKw pos (keywordEach kws X.env)).filterMap (·.1) = ks := by rfl) (hdb : (x == ("__debug__" : Str)) = false := by decide)
    (hpl : ((backTo pos (starEach [] X.env)).any (·.1) || (backToKw pos (keywordEach kws X.env)).any (·.1.isNone)) = false := by rfl) :
    PE X (.Call (.Name x p) [] kws pos) (tCallGK sp 0 ks.length perm E tNil tk) := by
  constructor
  intro pins s σ H Q I h
  refine wpAny_Call_Name_kw (ld_glob I hg hm ?_ hdb)
  refine PySem.W.callWith_KW0 (h₀ := X.base) I.ok.mod.kin hk hall ?_ hpl
  refine thn (hkw.run pos pins s σ H _ I h) ?_
  rintro ws s2 ⟨zs, H2, I2, rz, l1, l2, q2⟩
  refine ⟨I2.kIn, ?_⟩
  rw [hks]
  exact go_fnK (us := []) (vs := []) F hgd hr hb (hx σ) I2 .nil rz rfl l2 q2
end
section
variable {K : PySem.W.Frag} {mg : Str → Option Value} {E : L2.St → XK} {F : Fm} {σ : L2.St} {G G' H H' : Hp} {en : En}
def eCallK (m : List D → Rs D) (n k : Nat) (perm : List Nat) (a b : Am) : Em := fun en => (a en).bind fun p => (b p.2).bind fun q => if p.1.length = n ∧ q.1.length = k then (m (permL perm (p.1 ++ q.1))).bind fun d => .ok (d, q.2) else .stk
theorem se_callK {m : List D → Rs D} {n k : Nat} {perm : List Nat} {ta tb : TA} {a b : Am} (h1 : SA K mg E ta a) (h2 : SA K mg E tb b) : SE K mg E (tCallGK (spP K mg m) n k perm E ta tb) (eCallK m n k perm a b) := by
  refine ⟨fun F σ en G H Q g h => ?_⟩
  show ta σ H _
  refine sa_bind h1 g poE_err id h fun ds en1 vs G1 H1 p1 g1 s1 d1 => ?_
  refine sa_bind h2 g1 poE_err id p1 fun es en2 zs G2 H2 p2 g2 s2 d2 => ?_
  split at p2
  · rename_i hl
    refine ⟨(dpa_len d1).trans hl.1, (dpa_len d2).trans hl.2, G2, permL perm (ds ++ es), g2.gf.gh, dpa_perm (dpa_app (dpa_mono s2 _ _ d1) d2) perm, ?_⟩
    have p2' : PoE K mg (E σ) F σ G Q ((m (permL perm (ds ++ es))).bind fun d => .ok (d, en2)) := p2
    cases q : m (permL perm (ds ++ es)) with
    | stk => rw [q] at p2'; exact p2'.elim
    | err c fs =>
      rw [q] at p2'
      exact fun cls dx H' e => p2' cls dx H' (ErrAt.back (F' := F0 G2 H2) g2.gf rfl rfl (fun _ z => z.elim) e)
    | ok d =>
      rw [q] at p2'
      exact fun v G' H' f hd => p2' v G' H' (g2.grow f) ((s1.trans s2).trans f.g0) hd
  · exact p2.elim
end
end Mir
end
section
set_option Elab.async false
set_option linter.all false
set_option maxRecDepth 100000
set_option maxHeartbeats 4000000
namespace Mir
open PySem PySem.Spec PyProof.Rows L2
structure DrC where
  ad : Int
  a : Int
  b : Int
  m1 : Int
  c : Int
  d : Int
  m2 : Int
  e : Int
  line : Int
def DrC.ok (k : DrC) : Bool := decide (0 ≤ k.ad) && decide (0 < k.m1) && decide (0 < k.m2) && decide (0 < k.e) && decide (k.m1 < 1000000000000) && decide (k.m2 < 1000000000000) && decide (k.e < 1000) && decide (k.a.natAbs < 1000000000000) && decide (k.b.natAbs < 1000000000000) && decide (k.c.natAbs < 1000000) && decide (k.d.natAbs < 1000000)
section
variable (K : PySem.W.Frag) (k : DrC)
abbrev tLen1 (t : TE) : TE := tCB (fun xs H Q => ∃ p ys, xs = [V.ref p] ∧ (SqL K H p ys ∨ SqT K H p ys) ∧ Q (.int ys.length) H) (tCons t tNil)
end
theorem log2_small {i : Int} {n : Nat} (h : i.natAbs < 2 ^ n) (hn : 0 < n) : i.natAbs.log2 < n := by
  by_cases q : i.natAbs = 0
  · rw [q]; simpa using hn
  · exact (Nat.log2_lt q).mpr h
end Mir
end
section
set_option Elab.async false
set_option linter.all false
set_option maxRecDepth 100000
set_option maxHeartbeats 4000000
namespace Mir
open PySem PySem.Spec PyProof.Rows L2
section
variable {K : PySem.W.Frag} {mg : Str → Option Value} {E : L2.St → XK} {F : Fm} {σ : L2.St} {G G' H H' : Hp} {en : En}
def eBLen (i : Nat) : Em := fun en => match ownL en i with
  | some ds => .ok (.int ds.length, en)
  | none => .stk
theorem se_bLen {i : Nat} : SE K mg E (tLen1 K (tVar i)) (eBLen i) := by
  refine ⟨fun F σ en G H Q g h => ?_⟩
  unfold eBLen at h
  split at h
  · rename_i ds e
    obtain ⟨p, vs, k1, k2, k3, k4, k5⟩ := g.own (ownL_some e)
    refine ⟨.ref p, k1, p, vs, rfl, .inl (.inl (.inl k3)), ?_⟩
    rw [dpa_len k4]
    exact h _ G H g (Same.refl _) (.int _)
  · exact h.elim
def eBIx (i : Nat) (m : Em) : Em := fun en => match ownL en i with
  | none => .stk
  | some _ => (m en).bind fun p => match ownL p.2 i, p.1 with
    | some ds, .int k => match atI ds k with
      | some d => .ok (d, p.2)
      | none => .stk
    | _, _ => .stk
theorem se_bIx {i : Nat} {te : TE} {m : Em} (h1 : SE K mg E te m) : SE K mg E (tOp (rIx K) (tVar i) te) (eBIx i m) := by
  refine ⟨fun F σ en G H Q g h => ?_⟩
  unfold eBIx at h
  split at h
  · exact h.elim
  rename_i ds0 e0
  obtain ⟨p0, vs0, k1, _⟩ := g.own (ownL_some e0)
  refine ⟨.ref p0, k1, ?_⟩
  show te σ H _
  refine se_bind h1 g poE_err id h fun d en1 v G1 H1 p1 g1 s1 d1 => ?_
  split at p1
  · rename_i ds k e1 e2
    have e2' : d = .int k := e2
    subst e2'
    cases d1
    obtain ⟨p, vs, l1, l2, l3, l4, l5⟩ := g1.own (ownL_some e1)
    rw [k1] at l1; cases l1
    split at p1
    · rename_i z hz
      obtain ⟨w, hw, dw⟩ := dpa_atI l4 hz
      exact .inl ⟨p0, vs, k, w, rfl, rfl, .inl (.inl l3), hw, p1 w G1 H1 g1 s1 dw⟩
    · exact p1.elim
  · exact p1.elim
end
end Mir
end
section
set_option Elab.async false
set_option linter.all false
set_option maxRecDepth 100000
set_option maxHeartbeats 4000000
namespace Mir
open PySem PySem.Spec PyProof.Rows L2
abbrev YesNo : Type := PySem.W.Frag → Bool
abbrev AlM : Type := Bool × List He.FnW
def obsM (fa : List He.Fa) (fn : List He.DefD) (ys : List YesNo) (K : PySem.W.Frag) : AlM := ((fa.all fun f => f.ok K) && ((fn.all fun d => d.ok K) && ys.all fun y => y K), fn.map fun d => He.fnW K d.at_)
def valM (fn : List He.DefD) : AlM := (true, fn.map He.DefD.val)
def SaysM (fa : List He.Fa) (fn : List He.DefD) (ys : List YesNo) (K : PySem.W.Frag) : Prop := obsM fa fn ys K = valM fn
section
variable {fa : List He.Fa} {fn : List He.DefD} {ys : List YesNo} {K : PySem.W.Frag}
theorem SaysM.yes (c : SaysM fa fn ys K) : (fa.all fun f => f.ok K) = true ∧ (fn.all fun d => d.ok K) = true ∧ (ys.all fun y => y K) = true := by
  have h : ((fa.all fun f => f.ok K) && ((fn.all fun d => d.ok K) && ys.all fun y => y K)) = true := congrArg (fun z : AlM => z.1) c
  rw [Bool.and_eq_true, Bool.and_eq_true] at h
  exact h
theorem SaysM.fact (c : SaysM fa fn ys K) {f : He.Fa} (h : f ∈ fa) : f.ok K = true := List.all_eq_true.mp c.yes.1 f h
theorem SaysM.own (c : SaysM fa fn ys K) {y : YesNo} (h : y ∈ ys) : y K = true := List.all_eq_true.mp c.yes.2.2 y h
theorem SaysM.def_ (c : SaysM fa fn ys K) {d : He.DefD} (h : d ∈ fn) : ∃ fd, FunD K d.name d.qual d.params d.body d.scope (d.dvs K) (d.kws K) (He.fAd K d.at_) fd := by
  obtain ⟨i, hi⟩ := List.mem_iff_getElem?.mp h
  have e : fn.map (fun d => He.fnW K d.at_) = fn.map He.DefD.val := congrArg (fun z : AlM => z.2) c
  have e2 : (fn.map fun d => He.fnW K d.at_)[i]? = (fn.map He.DefD.val)[i]? := by rw [e]
  rw [List.getElem?_map, List.getElem?_map, hi] at e2
  exact He.DefD.funD (Option.some.inj e2) (List.all_eq_true.mp c.yes.2.1 d h)
end
/-- what the walk knows of the module -/
structure Tx (fa : List He.Fa) (fn : List He.DefD) (ys : List YesNo) (K : PySem.W.Frag) (mg : Str → Option Value) : Prop where
  says : SaysM fa fn ys K
  glo : ∀ x, He.Fa.glo x ∈ fa → mg x = some (.ref (He.ga K x))
  free : ∀ x, He.Fa.free x ∈ fa → mg x = none
theorem tx_of {fa : List He.Fa} {fn : List He.DefD} {ys : List YesNo} {K : PySem.W.Frag} {mg : Str → Option Value} {h : Heap} (X : K.In h) (G : h.Ns mainGlobals mg) (c : SaysM fa fn ys K) : Tx fa fn ys K mg :=
  ⟨c, fun x hx => He.glo_ok X G (c.fact hx), fun x hx => He.free_ok X G (c.fact hx)⟩
section
variable {K : PySem.W.Frag} {mg : Str → Option Value} {E : L2.St → XK}
def tmYes : Tm := fun en => .ok (true, en)
theorem st_yes : ST K mg E tYes tmYes := ⟨fun F σ en G H Q g h => h G H g (Same.refl _)⟩
end
structure CalG [CxK] (P : Program) (w : World) (K : PySem.W.Frag) (mg : Str → Option Value) (base : Heap) (k : Nat) (d : He.DefD) (ps : List Str) (sp : Sp) : Prop where
  ex : ∃ fd, FunD K d.name d.qual d.params d.body d.scope [] [] (He.fAd K d.at_) fd ∧ FnG P w K mg base (CxK.cx P w) k (He.fAd K d.at_) fd ps sp ∧ Binds K fd ps []
  glo : mg d.name = some (.ref (He.fAd K d.at_))
section
variable {X : Cx} {j k n : Nat} {d : He.DefD} {ps ks : List Str} {perm : List Nat} {sp : Sp} {E : L2.St → XK} {p pos : Pos} {e : Expr} {es : List Expr} {kws : List Keyword} {t tk : TA}
theorem pe_calX [CxK] (c : CalG X.prog X.w X.K X.mg X.base k d ps sp) (hgd : X.A.guards = some []) (hr : Room j X.A) (hk : k ≤ j) (hx : ∀ σ, PassesAt (CxK.cx X.prog X.w) X σ (E σ)) (ha : PA X (e :: es) t) (hg : Gl X d.name := by rfl) (hdb : (d.name == ("__debug__" : Str)) = false := by decide)
    (he : starEach (e :: es) X.env = (false, eval e X.env) :: starEach es X.env := by rfl) (hpl : (backTo pos (starEach es X.env)).any (·.1) = false := by rfl) : PE X (.Call (.Name d.name p) (e :: es) [] pos) (tCallG sp E t) := by
  obtain ⟨fd, F, Fn, B⟩ := c.ex
  exact pe_callG Fn hgd (hr.mono hk) hg c.glo F.kp B hx ha hdb he hpl
theorem pe_cal0X [CxK] (c : CalG X.prog X.w X.K X.mg X.base k d ps sp) (hgd : X.A.guards = some []) (hr : Room j X.A) (hk : k ≤ j) (hx : ∀ σ, PassesAt (CxK.cx X.prog X.w) X σ (E σ))
    (hb : ∀ (kV doc pm : Value) (an : Option Addr) (cdv ct : Value) (us ws : List Value), us.length = 0 → ws.length = ks.length → bindArgs (PySem.W.fnOf d.name d.qual d.params d.body d.scope .none kV doc pm an cdv ct) ⟨us, ks.zip ws⟩ = pure (ps.zip (permL perm (us ++ ws))))
    (hkw : PK X kws tk) (hg : Gl X d.name := by rfl) (hall : (backToKw pos (keywordEach kws X.env)).all (·.1.isSome) = true := by rfl) (hks : (backToKw pos (keywordEach kws X.env)).filterMap (·.1) = ks := by rfl) (hdb : (d.name == ("__debug__" : Str)) = false := by decide)
    (hpl : ((backTo pos (starEach [] X.env)).any (·.1) || (backToKw pos (keywordEach kws X.env)).any (·.1.isNone)) = false := by rfl) :
    PE X (.Call (.Name d.name p) [] kws pos) (tCallGK sp 0 ks.length perm E tNil tk) := by
  obtain ⟨fd, F, Fn, B⟩ := c.ex
  exact pe_callG0 Fn hgd (hr.mono hk) hg c.glo F.kp (kwB_of F 0 perm hb) hx hkw hall hks hdb hpl
variable {P : Program} {w : World} {K : PySem.W.Frag} {mg : Str → Option Value} {base : Heap}
theorem pe_cal [CxK] (c : CalG P w K mg base k d ps sp) (hgd : X.A.guards = some []) (hr : Room j X.A) (hk : k ≤ j) (hx : ∀ σ, PassesAt (CxK.cx X.prog X.w) X σ (E σ)) (ha : PA X (e :: es) t) (z1 : X.prog = P := by rfl) (z2 : X.w = w := by rfl) (z3 : X.K = K := by rfl) (z4 : X.mg = mg := by rfl) (z5 : X.base = base := by rfl)
    (hg : Gl X d.name := by rfl) (hdb : (d.name == ("__debug__" : Str)) = false := by decide) (he : starEach (e :: es) X.env = (false, eval e X.env) :: starEach es X.env := by rfl) (hpl : (backTo pos (starEach es X.env)).any (·.1) = false := by rfl) : PE X (.Call (.Name d.name p) (e :: es) [] pos) (tCallG sp E t) := by
  subst z1 z2 z3 z4 z5
  exact pe_calX c hgd hr hk hx ha hg hdb he hpl
theorem pe_cal0 [CxK] (c : CalG P w K mg base k d ps sp) (hgd : X.A.guards = some []) (hr : Room j X.A) (hk : k ≤ j) (hx : ∀ σ, PassesAt (CxK.cx X.prog X.w) X σ (E σ))
    (hb : ∀ (kV doc pm : Value) (an : Option Addr) (cdv ct : Value) (us ws : List Value), us.length = 0 → ws.length = ks.length → bindArgs (PySem.W.fnOf d.name d.qual d.params d.body d.scope .none kV doc pm an cdv ct) ⟨us, ks.zip ws⟩ = pure (ps.zip (permL perm (us ++ ws))))
    (hkw : PK X kws tk) (z1 : X.prog = P := by rfl) (z2 : X.w = w := by rfl) (z3 : X.K = K := by rfl) (z4 : X.mg = mg := by rfl) (z5 : X.base = base := by rfl) (hg : Gl X d.name := by rfl) (hall : (backToKw pos (keywordEach kws X.env)).all (·.1.isSome) = true := by rfl) (hks : (backToKw pos (keywordEach kws X.env)).filterMap (·.1) = ks := by rfl) (hdb : (d.name == ("__debug__" : Str)) = false := by decide)
    (hpl : ((backTo pos (starEach [] X.env)).any (·.1) || (backToKw pos (keywordEach kws X.env)).any (·.1.isNone)) = false := by rfl) :
    PE X (.Call (.Name d.name p) [] kws pos) (tCallGK sp 0 ks.length perm E tNil tk) := by
  subst z1 z2 z3 z4 z5
  exact pe_cal0X c hgd hr hk hx hb hkw hg hall hks hdb hpl
/-- nothing passes -/
theorem passF [CxK] {X : Cx} (σ : L2.St) : PassesAt (CxK.cx X.prog X.w) X σ (fun _ _ _ => False) := fun _ _ _ _ _ _ z => (CxK.no _ _ _ _ _ _ _ z).elim
theorem room65 {k : Nat} {A : Around} (r : Room k A) : A.units + 65 < cLine := by have := r.un; omega
end
/-- a class's own statement -/
def clsBody (s : Stmt) (j : Nat) : Stmt := match s with
  | .ClassDef _ _ _ b _ _ _ _ _ _ _ => b.getD j (.Pass ⟨0, 0, 0, 0⟩)
  | s => s
/-- an own error's class: its facts, its __init__ -/
structure ErrC [CxK] (P : Program) (w : World) (K : PySem.W.Frag) (mg : Str → Option Value) (base : Heap) (c f1 f2 : Str) (d : He.DefD) : Prop where
  oex : OexC K (He.ga K c)
  glo : mg c = some (.ref (He.ga K c))
  init : PySem.W.findIn K (.ref (He.ga K c)) "__init__" = some (some (.ref (He.fAd K d.at_)))
  ty : PySem.W.typeIn K (.ref (He.fAd K d.at_)) = some (.type "function")
  run : ∃ fd, FnOk P w K mg base (CxK.cx P w) 1 (He.fAd K d.at_) fd [("self" : Str), f1, f2] (spIni (He.ga K c) f1 f2) ∧ Binds K fd [("self" : Str), f1, f2] []
def errY (c : Str) (d : Str × Option Str) (f1 f2 : Str) : List YesNo := [fun K => oexB K (He.ga K c), fun K => decide (PySem.W.findIn K (.ref (He.ga K c)) "__init__" = some (some (.ref (He.fAd K d)))), fun K => decide (PySem.W.typeIn K (.ref (He.fAd K d)) = some (.type "function")),
  fun K => decide (PySem.W.findIn K (.ref (He.ga K c)) f1 = some none), fun K => decide (PySem.W.findIn K (.ref (He.ga K c)) f2 = some none), fun K => xfB K (He.ga K c)]
theorem errC_of [CxK] {P : Program} {w : World} {fa : List He.Fa} {fn : List He.DefD} {ys : List YesNo} {K : PySem.W.Frag} {mg : Str → Option Value} {base : Heap} {c f1 f2 : Str} {d : He.DefD} (T : Tx fa fn ys K mg) (hd : d ∈ fn) (hdf : d.dfl = []) (hkw : d.kwd = []) (hc : He.Fa.glo c ∈ fa) (hy : ∀ y ∈ errY c d.at_ f1 f2, y ∈ ys)
    (S : FnScope [("self" : Str), f1, f2] [("self" : Str), f1, f2] d.scope) (hb : ∀ (kV doc pm : Value) (an : Option Addr) (cdv ct : Value) (us : List Value), us.length = 3 → bindArgs (PySem.W.fnOf d.name d.qual d.params d.body d.scope .none kV doc pm an cdv ct) ⟨us, []⟩ = pure ((["self", f1, f2] : List Str).zip us))
    (hp : ∀ X : Cx, X.N = [("self" : Str), f1, f2] → X.env.scope = d.scope → PSs X d.body (tIni X.K f1 f2)) : ErrC P w K mg base c f1 f2 d := by
  have y0 : oexB K (He.ga K c) = true := T.says.own (y := fun K => oexB K (He.ga K c)) (hy _ (by simp [errY]))
  have y1 : decide (PySem.W.findIn K (.ref (He.ga K c)) "__init__" = some (some (.ref (He.fAd K d.at_)))) = true := T.says.own (y := fun K => decide (PySem.W.findIn K (.ref (He.ga K c)) "__init__" = some (some (.ref (He.fAd K d.at_))))) (hy _ (by simp [errY]))
  have y2 : decide (PySem.W.typeIn K (.ref (He.fAd K d.at_)) = some (.type "function")) = true := T.says.own (y := fun K => decide (PySem.W.typeIn K (.ref (He.fAd K d.at_)) = some (.type "function"))) (hy _ (by simp [errY]))
  have y3 : decide (PySem.W.findIn K (.ref (He.ga K c)) f1 = some none) = true := T.says.own (y := fun K => decide (PySem.W.findIn K (.ref (He.ga K c)) f1 = some none)) (hy _ (by simp [errY]))
  have y4 : decide (PySem.W.findIn K (.ref (He.ga K c)) f2 = some none) = true := T.says.own (y := fun K => decide (PySem.W.findIn K (.ref (He.ga K c)) f2 = some none)) (hy _ (by simp [errY]))
  obtain ⟨fd, F⟩ := T.says.def_ hd
  have e1 : d.dvs K = [] := by unfold He.DefD.dvs; rw [hdf]; rfl
  have e2 : d.kws K = [] := by unfold He.DefD.kws; rw [hkw]; rfl
  rw [e1, e2] at F
  have o := oexB_ok y0
  refine ⟨o, T.glo c hc, of_decide_eq_true y1, of_decide_eq_true y2, fd, ?_, F.bindsN fun a b c d e f us hl => hb a b c d e f us hl⟩
  refine F.ok S (fun vs H Q E h => ?_) (fun cdv A outer s H vs Q E hr h => ⟨tIni K f1 f2, hp _ rfl rfl, pure_ini o (of_decide_eq_true y3) (of_decide_eq_true y4) rfl vs H Q E h⟩)
  obtain ⟨a, x, y, rfl, _⟩ := h
  rfl
end Mir
end
section
set_option Elab.async false
set_option linter.all false
set_option maxRecDepth 100000
set_option maxHeartbeats 4000000
namespace Mir
open PySem PySem.Spec PyProof.Rows L2
section
variable {K : PySem.W.Frag} {mg : Str → Option Value} {E : L2.St → XK} {F : Fm} {σ : L2.St} {G G' H H' : Hp} {en : En}
def lRep (a : Am) (m : Em) : Am := fun en => (a en).bind fun p => (m p.2).bind fun q => match q.1 with
  | .int k => if (-100000 ≤ k ∧ k ≤ 100000) ∧ p.1.length * k.toNat ≤ big then .ok ((List.replicate k.toNat p.1).flatten, q.2) else .stk
  | _ => .stk
theorem dpa_rep {vs : List V} {ds : List D} (h : DpAll K G vs ds) : ∀ n, DpAll K G (List.replicate n vs).flatten (List.replicate n ds).flatten
  | 0 => .nil
  | n + 1 => by
    rw [List.replicate_succ, List.replicate_succ, List.flatten_cons, List.flatten_cons]
    exact dpa_app h (dpa_rep h n)
theorem sl_rep {ta tb : TE} {a : Am} {m : Em} (h1 : SL K mg E ta a) (h2 : SE K mg E tb m) : SL K mg E (tOp rRep ta tb) (lRep a m) := by
  refine ⟨fun F σ en G H Q g h => ?_⟩
  show ta σ H _
  refine sl_bind h1 g poL_err id h fun ds en1 l vs G1 H1 p1 g1 s1 hg hh hd h0 fr => ?_
  have sm : Same G1 (upd G1 l (.lst vs)) := same_upd hg
  refine se_bind h2 (g1.adopt hg hh (.inr h0) fr) poL_err id p1 fun e en2 u G2 H2 p2 g2 s2 d2 => ?_
  have hl : H2 l = some (.lst vs) := g2.gf.gh _ _ (s2 _ _ upd_same)
  cases e with
  | int k =>
    cases d2
    have p2' : PoL K mg (E σ) F σ G Q (if (-100000 ≤ k ∧ k ≤ 100000) ∧ ds.length * k.toNat ≤ big then .ok ((List.replicate k.toNat ds).flatten, en2) else .stk) := p2
    split at p2'
    case isFalse => exact p2'.elim
    rename_i hk
    refine ⟨l, k, vs, rfl, rfl, hl, by omega, by omega, by rw [dpa_len hd]; exact big_line hk.2, fun p hp => ?_⟩
    have f := gf0_new (o := .lst (List.replicate k.toNat vs).flatten) g2.gf.gh hp
    exact p2' p _ G2 _ (g2.grow f) ((s1.trans sm).trans s2) (Same.free g2.gf.gh hp) upd_same (dpa_rep (dpa_mono (sm.trans s2) _ _ hd) _) (h0_new g2 hp) (free_new g2 hp f)
  | none => exact (show False from p2).elim
  | bool b => exact (show False from p2).elim
  | str x => exact (show False from p2).elim
  | list ds => exact (show False from p2).elim
  | tuple ds => exact (show False from p2).elim
  | dict kvs => exact (show False from p2).elim
end
def spO (K : PySem.W.Frag) (mg : Str → Option Value) (m : List D → Rs (List D)) : Sp := fun vs H Q E => ∃ G ds, Same G H ∧ DpAll K G vs ds ∧
  match m ds with
  | .ok zs => ∀ p us G' H', Gf (F0 G H) G' H' → H p = none → G' p = none → H' p = some (.lst us) → DpAll K G' us zs → Q (.ref p) H'
  | _ => False
def lCall (m : List D → Rs (List D)) (a : Am) : Am := fun en => (a en).bind fun p => (m p.1).calm.bind fun zs => .ok (zs, p.2)
section
variable {K : PySem.W.Frag} {mg : Str → Option Value} {E : L2.St → XK}
theorem sl_callO {m : List D → Rs (List D)} {ta : TA} {a : Am} {E1 : L2.St → XK} (h1 : SA K mg E ta a) : SL K mg E (tCallG (spO K mg m) E1 ta) (lCall m a) := by
  refine ⟨fun F σ en G H Q g h => ?_⟩
  show ta σ H _
  refine sa_bind h1 g poL_err id h fun ds en1 vs G1 H1 p1 g1 s1 d1 => ?_
  obtain ⟨zs, ez, pz⟩ := calm_bind (P := PoL K mg (E σ) F σ G Q) id p1
  refine ⟨G1, ds, g1.gf.gh, d1, ?_⟩
  rw [show m ds = .ok zs from ez]
  intro p us G' H' f hp hg hh hd
  exact pz p us G' H' (g1.grow f) (s1.trans f.g0) hg hh hd (h0_new g1 hp) (free_new g1 hp f)
end
/-- a body that ends with its own list -/
structure SOw (K : PySem.W.Frag) (mg : Str → Option Value) (E : XK) (ts : TS) (m : Am) : Prop where
  run : ∀ F σ en G H D, Gd K F G H σ en → (match m en with
    | .ok (ds, en') => ∀ p vs σ' G' H', Gd K F G' H' σ' en' → Same G G' → G' p = none → H' p = some (.lst vs) → DpAll K G' vs ds → (F.Z p ∨ F.H0 p = none) → D.rt (.ref p) H'
    | _ => False) → ts D σ H
def fnO (n np : Nat) (m : Am) (ds : List D) : Rs (List D) := if ds.length = np then (m (enOf n ds)).bind fun p => .ok p.1 else .stk
section
variable {P : Program} {w : World} {K : PySem.W.Frag} {mg : Str → Option Value} {base : Heap} {x qual : Str} {params : Arguments} {body : List Stmt} {scope : Scope} {f : Addr} {fd : FuncData} {N ps : List Str} {k : Nat}
theorem fnO_ok [CxK] {m : Am} (F : FunD K x qual params body scope [] [] f fd) (S : FnScope N ps scope) (hn : ps.length ≤ N.length)
    (hb : ∀ (cdv : Value) (A : Around) (outer : List Env) (s : Shared) (H : Hp) (E : XK), (A.deeper (envOfC qual scope s.heap.objs.size f cdv)).guards = some [] → Room k (A.deeper (envOfC qual scope s.heap.objs.size f cdv)) →
      ∃ t, PSs (cxOf (CxK.cx P w) P w K mg base N qual scope f cdv A outer s H E) body t ∧ SOw K mg E t m) :
    FnG P w K mg base (CxK.cx P w) (k + 1) f fd ps (spO K mg (fnO N.length ps.length m)) := by
  have len : ∀ vs H Q E, spO K mg (fnO N.length ps.length m) vs H Q E → vs.length = ps.length := by
    rintro vs H Q E ⟨G, ds, gh, hd, h⟩
    by_cases q : ds.length = ps.length
    · rw [dpa_len hd, q]
    · have : fnO N.length ps.length m ds = .stk := if_neg q
      rw [this] at h
      exact h.elim
  refine fnG_of F S len fun cdv A outer s H vs Q E hgd hr hsp => ?_
  obtain ⟨t, h1, h2⟩ := hb cdv A outer s H E hgd hr
  refine ⟨t, h1, ?_⟩
  have hlen := len vs H Q E hsp
  obtain ⟨G, ds, gh, hd, h⟩ := hsp
  refine h2.run (F0 G H) _ (enOf N.length ds) G H _ (gd_start gh hd (by omega)) ?_
  have hq : ds.length = ps.length := by rw [← dpa_len hd]; exact hlen
  have e1 : fnO N.length ps.length m ds = (m (enOf N.length ds)).bind fun p => .ok p.1 := if_pos hq
  rw [e1] at h
  cases q : m (enOf N.length ds) with
  | stk => rw [q] at h; exact h
  | err c fs => rw [q] at h; exact h
  | ok z =>
    obtain ⟨zs, en'⟩ := z
    rw [q] at h
    intro p us σ' G' H' g' s' hg hh hd' hz
    exact h p us G' H' g'.gf (by
      rcases hz with z | z
      · exact z.elim
      · exact z) hg hh hd'
/-- a promise that asks for what cannot be -/
theorem fnG_never [CxK] {f : Addr} {fd : FuncData} {ps : List Str} {k : Nat} : FnG P w K mg base (CxK.cx P w) k f fd ps (spP K mg fun _ => .stk) :=
  ⟨fun _ _ _ _ ⟨_, _, _, _, h⟩ => h.elim, fun _ _ _ _ _ _ _ _ _ _ _ _ _ _ ⟨_, _, _, _, h⟩ => h.elim⟩
end
end Mir
end
section
set_option Elab.async false
set_option linter.all false
set_option maxRecDepth 100000
set_option maxHeartbeats 4000000
namespace Mir
open PySem PySem.Spec PyProof.Rows L2 HT
end Mir
end
section
set_option Elab.async false
set_option linter.all false
set_option maxRecDepth 100000
set_option maxHeartbeats 4000000
namespace Mir
open PySem PySem.Spec PyProof.Rows L2
section
variable {en : En}
@[simp] theorem mNext_ap : mNext en = .ok (.nx, en) := rfl
@[simp] theorem mSeq_ap {a b : Sm} : mSeq a b en = (a en).bind fun p => match p.1 with
  | .nx => b p.2
  | f => .ok (f, p.2) := rfl
@[simp] theorem mCont_ap : mCont en = .ok (.ct, en) := rfl
@[simp] theorem mBreak_ap : mBreak en = .ok (.bk, en) := rfl
@[simp] theorem mDrop_ap {m : Em} : mDrop m en = (m en).bind fun p => .ok (.nx, p.2) := rfl
@[simp] theorem mRet_ap {m : Em} : mRet m en = (m en).bind fun p => .ok (.rt p.1, p.2) := rfl
@[simp] theorem mRetN_ap : mRetN en = .ok (.rt .none, en) := rfl
@[simp] theorem mAsg_ap {gm : Gm} {m : Em} : mAsg gm m en = (m en).bind fun p => (gm p.1 p.2).calm.bind fun e => .ok (.nx, e) := rfl
@[simp] theorem mAsgO_ap {i : Nat} {m : Am} : mAsgO i m en = (m en).bind fun p => .ok (.nx, p.2.set i (.own (.lst p.1))) := rfl
@[simp] theorem mIf_ap {t : Tm} {a b : Sm} : mIf t a b en = (t en).bind fun p => if p.1 = true then a p.2 else b p.2 := rfl
@[simp] theorem gmName_ap {j : Nat} {d : D} : gmName j d en = .ok (en.set j (.dat d)) := rfl
@[simp] theorem eC_ap {d : D} : eC d en = .ok (d, en) := rfl
@[simp] theorem aNil_ap : aNil en = .ok ([], en) := rfl
@[simp] theorem aCons_ap {m : Em} {r : Am} : aCons m r en = (m en).bind fun p => (r p.2).bind fun q => .ok (p.1 :: q.1, q.2) := rfl
@[simp] theorem eTup_ap {a : Am} : eTup a en = (a en).bind fun p => if p.1.length ≤ big then .ok (.tuple p.1, p.2) else .stk := rfl
@[simp] theorem lLst_ap {a : Am} : lLst a en = (a en).bind fun p => if p.1.length ≤ big then .ok p else .stk := rfl
@[simp] theorem eL_ap {a : Am} : eL a en = (a en).bind fun p => .ok (.list p.1, p.2) := rfl
@[simp] theorem e1_ap {f : D → Rs D} {a : Em} : e1 f a en = (a en).bind fun p => (f p.1).calm.bind fun z => .ok (z, p.2) := rfl
@[simp] theorem e2_ap {f : D → D → Rs D} {a b : Em} : e2 f a b en = (a en).bind fun p => (b p.2).bind fun q => (f p.1 q.1).calm.bind fun z => .ok (z, q.2) := rfl
@[simp] theorem eN_ap {f : List D → Rs D} {a : Am} : eN f a en = (a en).bind fun p => (f p.1).calm.bind fun z => .ok (z, p.2) := rfl
@[simp] theorem lN_ap {f : List D → Rs (List D)} {a : Am} : lN f a en = (a en).bind fun p => (f p.1).calm.bind fun z => .ok (z, p.2) := rfl
@[simp] theorem tmB_ap {a : Em} : tmB a en = (a en).bind fun p => match p.1 with
  | .bool b => .ok (b, p.2)
  | _ => .stk := rfl
@[simp] theorem tmTru_ap {a : Em} : tmTru a en = (a en).bind fun p => (tru p.1).calm.bind fun b => .ok (b, p.2) := rfl
@[simp] theorem tru_bool {b : Bool} : tru (.bool b) = .ok b := rfl
@[simp] theorem tmYes_ap : tmYes en = .ok (true, en) := rfl
@[simp] theorem tmAnd_ap {a b : Tm} : tmAnd a b en = (a en).bind fun p => if p.1 = true then b p.2 else .ok (false, p.2) := rfl
@[simp] theorem tmOr_ap {a b : Tm} : tmOr a b en = (a en).bind fun p => if p.1 = true then .ok (true, p.2) else b p.2 := rfl
@[simp] theorem tmNot_ap {a : Tm} : tmNot a en = (a en).bind fun p => .ok (!p.1, p.2) := rfl
@[simp] theorem eAnd_ap {a b : Em} : eAnd a b en = (a en).bind fun p => match p.1 with
  | .bool true => b p.2
  | .bool false => .ok (.bool false, p.2)
  | _ => .stk := rfl
@[simp] theorem eOr_ap {a b : Em} : eOr a b en = (a en).bind fun p => match p.1 with
  | .bool true => .ok (.bool true, p.2)
  | .bool false => b p.2
  | _ => .stk := rfl
@[simp] theorem eNot_ap {a : Em} : eNot a en = (a en).bind fun p => match p.1 with
  | .bool b => .ok (.bool (!b), p.2)
  | _ => .stk := rfl
@[simp] theorem eIf_ap {t : Tm} {a b : Em} : eIf t a b en = (t en).bind fun p => if p.1 = true then a p.2 else b p.2 := rfl
@[simp] theorem eIsi_ap {t : Ty} {m : Em} : eIsi t m en = (m en).bind fun p => .ok (.bool (isi t p.1), p.2) := rfl
@[simp] theorem eCall_ap {m : List D → Rs D} {a : Am} : eCall m a en = (a en).bind fun p => (m p.1).bind fun d => .ok (d, p.2) := rfl
@[simp] theorem eAt_ap {i : Nat} {m : Em} : eAt i m en = if i < en.length then m en else .stk := rfl
@[simp] theorem eCallK_ap {m : List D → Rs D} {n k : Nat} {perm : List Nat} {a b : Am} : eCallK m n k perm a b en = (a en).bind fun p => (b p.2).bind fun q => if p.1.length = n ∧ q.1.length = k then (m (permL perm (p.1 ++ q.1))).bind fun d => .ok (d, q.2) else .stk := rfl
@[simp] theorem mRaise_ap {c f1 f2 : Str} {a : Am} : mRaise c f1 f2 a en = (a en).bind fun p => match p.1 with
  | [d1, d2] => .err c [(f2, d2), (f1, d1)]
  | _ => .stk := rfl
@[simp] theorem mFor_ap {im : Im} {gm : Gm} {b : Sm} : mFor im gm b en = (im en).bind fun p => forGo gm b p.1 p.2 := rfl
@[simp] theorem imSeq_ap {m : Em} : imSeq m en = (m en).bind fun p => (itemsOf p.1).bind fun ds => .ok (ds, p.2) := rfl
@[simp] theorem imRng_ap {f : List D → Rs (List D)} {a : Am} : imRng f a en = (a en).bind fun p => (f p.1).bind fun ds => .ok (ds, p.2) := rfl
@[simp] theorem itemsOf_list {ds : List D} : itemsOf (.list ds) = .ok ds := rfl
@[simp] theorem itemsOf_tuple {ds : List D} : itemsOf (.tuple ds) = .ok ds := rfl
@[simp] theorem fLen_list {ds : List D} : fLen [.list ds] = .ok (.int ds.length) := rfl
@[simp] theorem fLen_tuple {ds : List D} : fLen [.tuple ds] = .ok (.int ds.length) := rfl
@[simp] theorem fTuple_list {ds : List D} : fTuple [.list ds] = .ok (.tuple ds) := rfl
@[simp] theorem fTuple_tuple {ds : List D} : fTuple [.tuple ds] = .ok (.tuple ds) := rfl
@[simp] theorem fInt_int {i : Int} : fInt [.int i] = .ok (.int i) := rfl
@[simp] theorem fNeg_int {i : Int} : fNeg (.int i) = .ok (.int (-i)) := rfl
@[simp] theorem isi_int_int {i : Int} : isi .int (.int i) = true := rfl
@[simp] theorem isi_bool_int {i : Int} : isi .bool (.int i) = false := rfl
@[simp] theorem isi_tup_tup {ds : List D} : isi .tup (.tuple ds) = true := rfl
@[simp] theorem eVar_0 {d : D} {r : En} : eVar 0 (.dat d :: r) = .ok (d, .dat d :: r) := rfl
theorem eVar_ap {i : Nat} : eVar i en = match en[i]? with
  | some (.dat d) => .ok (d, en)
  | some (.own (.lst ds)) => .ok (.list ds, en.set i (.dat (.list ds)))
  | _ => .stk := rfl
@[simp] theorem intsD_zero {n : Nat} : intsD 0 n = (List.range n).map fun i : Nat => PyData.int (i : Nat) := by simp [intsD]
theorem rng1_nat {n : Nat} (h : n ≤ 100000) : rng1 [.int (n : Int)] = .ok ((List.range n).map fun i : Nat => PyData.int (i : Nat)) := by
  have e : rng1 [.int (n : Int)] = if (n : Int) ≤ 100000 ∧ -100000 ≤ (n : Int) then .ok (intsD 0 (n : Int).toNat) else .stk := rfl
  rw [e, if_pos (by omega)]
  simp
end
theorem set_self {en : En} {j : Nat} (h : j < en.length) : en.set j (en.getD j .un) = en := by
  apply List.ext_getElem?
  intro i
  by_cases q : j = i
  · subst q
    rw [List.getElem?_set_self h, List.getD_eq_getElem?_getD, List.getElem?_eq_getElem h]
    rfl
  · rw [List.getElem?_set_ne q]
theorem lcGo_pure {j : Nat} {t : Tm} {m : Em} {en : En} {b : D → Bool} {f : D → D} : ∀ {ds : List D},
    (∀ d ∈ ds, t (en.set j (.dat d)) = .ok (b d, en.set j (.dat d)) ∧ (b d = true → m (en.set j (.dat d)) = .ok (f d, en.set j (.dat d)))) →
    lcGo [j] (gmName j) t m ds (en.set j .un) = .ok ((ds.filter b).map f, en.set j .un)
  | [], _ => rfl
  | d :: ds, h => by
    obtain ⟨h1, h2⟩ := h d (List.mem_cons_self ..)
    have ih := lcGo_pure (ds := ds) fun x hx => h x (List.mem_cons_of_mem _ hx)
    have e0 : (en.set j .un).set j (.dat d) = en.set j (.dat d) := List.set_set ..
    have e1 : wipeE (en.set j (.dat d)) [j] = en.set j .un := List.set_set ..
    unfold lcGo
    rw [gmName_ap, calm_ok, bind_ok, e0, h1, calm_ok, bind_ok]
    cases q : b d with
    | true =>
      rw [if_pos rfl, h2 q, calm_ok, bind_ok, e1, ih, bind_ok, List.filter_cons_of_pos (by rw [q]), List.map_cons]
    | false =>
      rw [if_neg Bool.false_ne_true, e1, ih, List.filter_cons_of_neg (by rw [q]; decide)]
theorem lLc_pure {j : Nat} {im : Im} {t : Tm} {m : Em} {en : En} {ds : List D} (b : D → Bool) (f : D → D) (hi : im en = .ok (ds, en)) (hj : j < en.length) (hn : noOwn en [j] = true) (hz : ds.length ≤ big)
    (h : ∀ d ∈ ds, t (en.set j (.dat d)) = .ok (b d, en.set j (.dat d)) ∧ (b d = true → m (en.set j (.dat d)) = .ok (f d, en.set j (.dat d)))) : lLc im [j] (gmName j) t m en = .ok ((ds.filter b).map f, en) := by
  unfold lLc
  rw [hi, bind_ok, if_pos ⟨hn, hz⟩]
  have e : wipeE en [j] = en.set j .un := rfl
  rw [e, lcGo_pure h, calm_ok, bind_ok]
  have e2 : restE en (en.set j .un) [j] = (en.set j .un).set j (en.getD j .un) := rfl
  rw [e2, List.set_set, set_self hj]
/-- .. over natural numbers below n -/
theorem lLc_nat {j : Nat} {a : Am} {t : Tm} {m : Em} {en : En} {n : Nat} (b : Nat → Bool) (f : Nat → D) (ha : a en = .ok ([.int (n : Int)], en)) (hj : j < en.length) (hn : noOwn en [j] = true) (hz : n ≤ 100000)
    (h : ∀ i, i < n → t (en.set j (.dat (.int (i : Nat)))) = .ok (b i, en.set j (.dat (.int (i : Nat)))) ∧ (b i = true → m (en.set j (.dat (.int (i : Nat)))) = .ok (f i, en.set j (.dat (.int (i : Nat)))))) :
    lLc (imRng rng1 a) [j] (gmName j) t m en = .ok (((List.range n).filter b).map f, en) := by
  have hi : imRng rng1 a en = .ok ((List.range n).map fun i : Nat => PyData.int (i : Nat), en) := by rw [imRng_ap, ha, bind_ok, rng1_nat hz, bind_ok]
  let dec : D → Nat := fun d => match d with | .int i => i.toNat | _ => 0
  have := lLc_pure (j := j) (t := t) (m := m) (fun d => b (dec d)) (fun d => f (dec d)) hi hj hn (by rw [List.length_map, List.length_range]; exact hz) (fun d hd => by
    obtain ⟨i, hi, rfl⟩ := List.mem_map.mp hd
    exact h i (List.mem_range.mp hi))
  rw [this, List.filter_map, List.map_map]
  rfl
end Mir
end
section
set_option Elab.async false
set_option linter.all false
set_option maxRecDepth 100000
set_option maxHeartbeats 4000000
namespace Mir
open PySem PySem.Spec PyProof.Rows L2
abbrev iD (n : Nat) : D := .int (n : Int)
def tupN (xs : List Nat) : D := .tuple (xs.map iD)
/-- a tuple of such tuples -/
def FD (F : List (List Nat)) : D := .tuple (F.map tupN)
@[simp] theorem fDiv_2 (m : Nat) : fDiv (iD m) (.int 2) = .ok (iD (m / 2)) := by
  have h : okDiv (m : Int) 2 = true := by unfold okDiv; decide
  show (if okDiv (m : Int) 2 = true then Rs.ok (PyData.int ((m : Int) / 2)) else .stk) = _
  rw [if_pos h]
  rfl
@[simp] theorem fMod_2 (m : Nat) : fMod (iD m) (.int 2) = .ok (iD (m % 2)) := by
  show (if okMod (m : Int) 2 = true then Rs.ok (PyData.int ((m : Int) % 2)) else .stk) = _
  rw [if_pos (show okMod (m : Int) 2 = true from (by decide : decide ((0 : Int) < 2) = true))]
  rfl
@[simp] theorem fMul_2 (m : Nat) (h : m < 2 ^ 40) : fMul (iD m) (.int 2) = .ok (iD (m * 2)) := by
  have h1 : okMul (m : Int) 2 = true := by
    unfold okMul
    rw [Bool.and_eq_true]
    refine ⟨decide_eq_true ?_, by decide⟩
    exact Nat.lt_of_lt_of_le (log2_small (n := 40) (by simpa using h) (by decide)) (by decide)
  show (if okMul (m : Int) 2 = true then Rs.ok (PyData.int ((m : Int) * 2)) else .stk) = _
  rw [if_pos h1]
  rfl
theorem eqv_iD (a b : Nat) : PyData.eqv (iD a) (iD b) = decide (a = b) := by
  rw [eqv_int]
  exact decide_eq_decide.mpr (by omega)
theorem depthAll_iD : ∀ xs : List Nat, PyData.depthAll (xs.map iD) = 0
  | [] => by simp [PyData.depthAll]
  | x :: xs => by rw [List.map_cons, PyData.depthAll, depthAll_iD xs]; simp [PyData.depth]
theorem layAll_iD : ∀ xs : List Nat, PyData.canLayAll0 (xs.map iD) = true
  | [] => by simp [PyData.canLayAll0]
  | x :: xs => by rw [List.map_cons, PyData.canLayAll0, layAll_iD xs]; simp [PyData.canLay0]
theorem depth_tupN (xs : List Nat) : (tupN xs).depth = 1 := by unfold tupN; rw [PyData.depth, depthAll_iD]
theorem lay_tupN (xs : List Nat) : (tupN xs).canLay0 = true := by unfold tupN; rw [PyData.canLay0, layAll_iD]
theorem shaped_of {d : D} (h1 : d.canLay0 = true) (h2 : d.depth ≤ 64) : SeqAt.shaped d = true := by
  show (d.canLay0 && decide (d.depth ≤ 64)) = true
  rw [h1, decide_eq_true h2]
  rfl
@[simp] theorem shaped_tupN (xs : List Nat) : SeqAt.shaped (tupN xs) = true := shaped_of (lay_tupN xs) (by rw [depth_tupN]; decide)
theorem plainAll_iD : ∀ xs : List Nat, PyData.plainAll (xs.map iD) = true
  | [] => rfl
  | x :: xs => by rw [List.map_cons, PyData.plainAll, plainAll_iD xs]; rfl
@[simp] theorem plain_tupN (xs : List Nat) : (tupN xs).plain = true := by unfold tupN; rw [PyData.plain, plainAll_iD]
end Mir
end
section
set_option Elab.async false
set_option linter.all false
set_option maxRecDepth 100000
set_option maxHeartbeats 4000000
namespace Mir
open PySem PySem.Spec PyProof.Rows L2
theorem shaped_str {x : Str} (h : PyData.strOk x = true) : SeqAt.shaped (.str x) = true := shaped_of (by rw [PyData.canLay0, h]) (by simp [PyData.depth])
theorem fEq_str {x y : Str} (hx : PyData.strOk x = true) (hy : PyData.strOk y = true) : fEq (.str x) (.str y) = .ok (.bool (decide (x = y))) := by
  have hc : okEq (.str x) (.str y) = true := by unfold okEq; rw [shaped_str hx, shaped_str hy]; rfl
  have he : PyData.eqv (.str x) (.str y) = decide (x = y) := by
    simp only [PyData.eqv]
    by_cases q : x = y
    · simp [q]
    · simp [q]
  unfold fEq
  rw [hc, he]
  rfl
end Mir
end
section
set_option Elab.async false
set_option linter.all false
set_option maxRecDepth 100000
set_option maxHeartbeats 4000000
namespace Mir
open PySem PySem.Spec PyProof.Rows L2
theorem mSeq_nx {a b : Sm} {en en1 : En} (h : a en = .ok (.nx, en1)) : mSeq a b en = b en1 := by rw [mSeq_ap, h, bind_ok]
theorem atI_N (xs : List Nat) (i : Nat) (h : i < xs.length) : atI (xs.map iD) (i : Int) = some (iD xs[i]) := by
  unfold atI ixN
  rw [if_pos (by omega), if_pos (by rw [List.length_map]; omega)]
  show (xs.map iD)[((i : Int)).toNat]? = _
  rw [Int.toNat_natCast, List.getElem?_map, List.getElem?_eq_getElem h]
  rfl
theorem fIx_tupN (xs : List Nat) (i : Nat) (h : i < xs.length) : fIx (tupN xs) (iD i) = .ok (iD xs[i]) := by
  show (match atI (xs.map iD) (i : Int) with
    | some z => Rs.ok z
    | none => .stk) = _
  rw [atI_N xs i h]
theorem fLen_tupN (xs : List Nat) : fLen [tupN xs] = .ok (iD xs.length) := by show Rs.ok (PyData.int (((xs.map iD).length : Nat) : Int)) = _; rw [List.length_map]
theorem fAdd_N (a b : Nat) : fAdd (iD a) (iD b) = .ok (iD (a + b)) := rfl
theorem fSub_N {a b : Nat} (h : b ≤ a) : fSub (iD a) (iD b) = .ok (iD (a - b)) := by
  show Rs.ok (PyData.int ((a : Int) - (b : Int))) = _
  have : (a : Int) - (b : Int) = ((a - b : Nat) : Int) := by omega
  rw [this]
theorem okMul_N {a b : Nat} (ha : a < 2 ^ 62) (hb : b < 2 ^ 62) : okMul (a : Int) (b : Int) = true := by
  unfold okMul
  rw [Bool.and_eq_true]
  exact ⟨decide_eq_true (Nat.lt_of_lt_of_le (log2_small (n := 62) (by show (a : Int).natAbs < _; omega) (by decide)) (by decide)), decide_eq_true (Nat.lt_of_lt_of_le (log2_small (n := 62) (by show (b : Int).natAbs < _; omega) (by decide)) (by decide))⟩
theorem fMul_N {a b : Nat} (ha : a < 2 ^ 62) (hb : b < 2 ^ 62) : fMul (iD a) (iD b) = .ok (iD (a * b)) := by
  show (if okMul (a : Int) (b : Int) = true then Rs.ok (PyData.int ((a : Int) * (b : Int))) else .stk) = _
  rw [if_pos (okMul_N ha hb)]
  have : (a : Int) * (b : Int) = ((a * b : Nat) : Int) := by omega
  rw [this]
theorem fMod_N {a b : Nat} (hb : 0 < b) : fMod (iD a) (iD b) = .ok (iD (a % b)) := by
  show (if okMod (a : Int) (b : Int) = true then Rs.ok (PyData.int ((a : Int) % (b : Int))) else .stk) = _
  rw [if_pos (show okMod (a : Int) (b : Int) = true from decide_eq_true (by omega))]
  rfl
theorem fDiv_N {a b : Nat} (hb : 0 < b) (hb2 : b < 2 ^ 62) : fDiv (iD a) (iD b) = .ok (iD (a / b)) := by
  have h : okDiv (a : Int) (b : Int) = true := by
    unfold okDiv
    rw [Bool.and_eq_true]
    exact ⟨decide_eq_true (by omega), decide_eq_true (Nat.lt_of_lt_of_le (log2_small (n := 62) (by show (b : Int).natAbs < _; omega) (by decide)) (by decide))⟩
  show (if okDiv (a : Int) (b : Int) = true then Rs.ok (PyData.int ((a : Int) / (b : Int))) else .stk) = _
  rw [if_pos h]
  rfl
theorem fEq_N (a b : Nat) : fEq (iD a) (iD b) = .ok (.bool (decide (a = b))) := by
  rw [fEq_int]
  congr 2
  exact decide_eq_decide.mpr (by omega)
theorem fNe_N (a b : Nat) : fNe (iD a) (iD b) = .ok (.bool (!decide (a = b))) := by
  rw [fNe_int]
  congr 2
  have : decide ((a : Int) = (b : Int)) = decide (a = b) := decide_eq_decide.mpr (by omega)
  first
    | rw [this]
    | (rw [← this]; simp)
theorem fLt_N (a b : Nat) : fLt (iD a) (iD b) = .ok (.bool (decide (a < b))) := by
  rw [fLt_int]
  congr 2
  exact decide_eq_decide.mpr (by omega)
theorem fGt_N (a b : Nat) : fGt (iD a) (iD b) = .ok (.bool (decide (b < a))) := by
  rw [fGt_int]
  congr 2
  exact decide_eq_decide.mpr (by omega)
theorem fGe_N (a b : Nat) : fGe (iD a) (iD b) = .ok (.bool (decide (b ≤ a))) := by
  rw [fGe_int]
  congr 2
  exact decide_eq_decide.mpr (by omega)
end Mir
end
section
set_option Elab.async false
set_option linter.all false
set_option maxRecDepth 100000
set_option maxHeartbeats 4000000
namespace Mir
open PySem PySem.Spec PyProof.Rows L2
theorem fAdd_list (a b : List D) (h : a.length + b.length ≤ 100000) : fAdd (.list a) (.list b) = .ok (.list (a ++ b)) := by
  show (if a.length + b.length ≤ big then Rs.ok (PyData.list (a ++ b)) else .stk) = _
  rw [if_pos (show a.length + b.length ≤ big from h)]
theorem fAdd_tup (a : List Nat) (k : Nat) (h : a.length ≤ 1000) : fAdd (tupN a) (.tuple [iD k]) = .ok (tupN (a ++ [k])) := by
  show (if (a.map iD).length + [iD k].length ≤ big then Rs.ok (PyData.tuple (a.map iD ++ [iD k])) else .stk) = _
  rw [if_pos (by rw [List.length_map]; show a.length + 1 ≤ 100000; omega)]
  unfold tupN
  rw [List.map_append]
  rfl
theorem any_iD (ts : List Nat) (m : Nat) : ((ts.map iD).any fun z => PyData.eqv z (iD m)) = decide (m ∈ ts) := by
  induction ts with
  | nil => simp
  | cons t ts ih =>
    rw [List.map_cons, List.any_cons, ih, eqv_iD]
    by_cases q : t = m
    · simp [q]
    · have : m ≠ t := fun z => q z.symm
      simp [q, this]
theorem in_tup (h : Nat) (b : List Nat) : fIn (iD h) (tupN b) = .ok (.bool (decide (h ∈ b))) := by
  show yn (okEq (iD h) (tupN b)) ((b.map iD).any fun z => PyData.eqv z (iD h)) = _
  have hc : okEq (iD h) (tupN b) = true := by unfold okEq; rw [shaped_int, shaped_tupN]; rfl
  rw [hc, any_iD]
  rfl
theorem notIn_tup (h : Nat) (b : List Nat) : fNotIn (iD h) (tupN b) = .ok (.bool (!decide (h ∈ b))) := by
  show yn (okEq (iD h) (tupN b)) (!(b.map iD).any fun z => PyData.eqv z (iD h)) = _
  have hc : okEq (iD h) (tupN b) = true := by unfold okEq; rw [shaped_int, shaped_tupN]; rfl
  rw [hc, any_iD]
  rfl
/-- a's houses are b's -/
theorem fSum_N (xs : List Nat) : fSum [.list (xs.map iD)] = .ok (iD xs.sum) := by
  have e1 : xs.map iD = (xs.map fun x : Nat => (x : Int)).map PyData.int := by rw [List.map_map]; rfl
  rw [e1]
  unfold fSum
  simp only [intsOf_map]
  congr 2
  induction xs with
  | nil => rfl
  | cons a l ih =>
    rw [List.map_cons, List.sum_cons, List.sum_cons, ih (by rw [List.map_map]; rfl)]
    omega
end Mir
end
section
set_option Elab.async false
set_option linter.all false
set_option maxRecDepth 100000
set_option maxHeartbeats 4000000
namespace Mir
open PySem PySem.Spec PyProof.Rows L2
end Mir
end
section
set_option Elab.async false
set_option linter.all false
set_option maxRecDepth 100000
set_option maxHeartbeats 4000000
namespace Mir
open PySem PySem.Spec PyProof.Rows L2
end Mir
end
section
set_option Elab.async false
set_option linter.all false
set_option maxRecDepth 100000
set_option maxHeartbeats 4000000
namespace Mir
open PySem PySem.Spec PyProof.Rows L2
def pinAt (en : En) (i : Nat) : Option MO := match en[i]? with
  | some (.own (.src c t)) => some (.src c t)
  | some (.own (.dl ds)) => some (.dl ds)
  | some (.own (.tl ds)) => some (.tl ds)
  | _ => none
theorem pinAt_1 {en : En} {i : Nat} {mo : MO} (h : pinAt en i = some mo) : mo.pin1 = false := by
  unfold pinAt at h
  split at h
  · cases h; rfl
  · cases h; rfl
  · cases h; rfl
  · cases h
theorem pin1_no {mo mo' : MO} (h : mo'.pin1 = false) : mo'.pin1 = true → mo.pin1 = true := fun z => by rw [h] at z; cases z
theorem pinAt_some {en : En} {i : Nat} {mo : MO} (h : pinAt en i = some mo) : en[i]? = some (.own mo) ∧ mo.pin = true := by
  unfold pinAt at h
  split at h
  · cases h; exact ⟨by assumption, rfl⟩
  · cases h; exact ⟨by assumption, rfl⟩
  · cases h; exact ⟨by assumption, rfl⟩
  · cases h
def fnD (n np : Nat) (m : Sm) (mo : MO) (ds : List D) : Rs (D × MO) := if ds.length + 1 = np then (endOf (m (enOfS n mo ds))).bind fun p => match pinAt p.2 0 with
    | some mo' => .ok (p.1, mo')
    | none => .stk
  else .stk
def spD (K : PySem.W.Frag) (mg : Str → Option Value) (m : MO → List D → Rs (D × MO)) : Sp := fun vs H Q E => ∃ G p vr ds mo as, vs = p :: vr ∧ Same G H ∧ mo.pin = true ∧ Own K G H p mo as ∧ DpAll K G vr ds ∧
  match m mo ds with
  | .ok (d, mo') => ∀ v G' H', Gf (FS G H p as) G' H' → Own K G' H' p mo' as → mo'.pin1 = false → Dp K G' v d → Q v H'
  | _ => False
section
variable {P : Program} {w : World} {K : PySem.W.Frag} {mg : Str → Option Value} {base : Heap} {x qual : Str} {params : Arguments} {body : List Stmt} {scope : Scope} {f : Addr} {fd : FuncData} {N ps : List Str} {k : Nat}
theorem gd_startD {G H : Hp} {p : V} {vr : List V} {ds : List D} {mo : MO} {as : List Addr} (gh : Same G H) (ow : Own K G H p mo as) (hd : DpAll K G vr ds) : Gd K (FS G H p as) G H (L2.start N (p :: vr)) (enOfS N.length mo ds) := by
  have hl := dpa_len hd
  refine ⟨Gf.refl G H _ _ _ gh, ?_, ⟨fun _ => 0, fun i sv e => ?_⟩, fun i0 m1 h1 e => ?_⟩
  · unfold enOfS L2.start
    simp only [List.length_append, List.length_map, List.length_replicate, List.length_cons, List.map_cons, List.cons_append, hl]
  · cases i with
    | zero =>
      have e' : some (SV.own mo) = some sv := e
      cases e'
      exact ⟨p, as, rfl, ow, fun a ha => ⟨rfl, .inl ha⟩⟩
    | succ i =>
      have e' : (ds.map SV.dat ++ List.replicate (N.length - (ds.length + 1)) .un)[i]? = some sv := e
      have e2 : sv = .un ∨ ∃ d, ds[i]? = some d ∧ sv = .dat d := by
        by_cases hi : i < ds.length
        · rw [List.getElem?_append_left (by rw [List.length_map]; exact hi), List.getElem?_map] at e'
          cases q : ds[i]? with
          | none => rw [q] at e'; cases e'
          | some d => rw [q] at e'; cases e'; exact .inr ⟨d, rfl, rfl⟩
        · rw [List.getElem?_append_right (by rw [List.length_map]; omega)] at e'
          left
          exact List.eq_of_mem_replicate (List.mem_of_getElem? e')
      rcases e2 with rfl | ⟨d, e1, rfl⟩
      · trivial
      · obtain ⟨v, e2, dv⟩ := dpa_get hd e1
        exact ⟨v, start_get (vs := p :: vr) (i := i + 1) e2, dv⟩
  · obtain ⟨rfl, rfl⟩ := enOfS_own e
    exact ⟨rfl, ow⟩
theorem fnD_ok [CxK] {m : Sm} (F : FunD K x qual params body scope [] [] f fd) (S : FnScope N ps scope) (hn : ps.length ≤ N.length)
    (hb : ∀ (cdv : Value) (A : Around) (outer : List Env) (s : Shared) (H : Hp) (E : XK), (A.deeper (envOfC qual scope s.heap.objs.size f cdv)).guards = some [] → Room k (A.deeper (envOfC qual scope s.heap.objs.size f cdv)) →
      ∃ t, PSs (cxOf (CxK.cx P w) P w K mg base N qual scope f cdv A outer s H E) body t ∧ SS K mg E t m) :
    FnG P w K mg base (CxK.cx P w) (k + 1) f fd ps (spD K mg (fnD N.length ps.length m)) := by
  have len : ∀ vs H Q E, spD K mg (fnD N.length ps.length m) vs H Q E → vs.length = ps.length := by
    rintro vs H Q E ⟨G, p, vr, ds, mo, as, rfl, gh, hm, ow, hd, h⟩
    by_cases q : ds.length + 1 = ps.length
    · rw [List.length_cons, dpa_len hd, q]
    · have : fnD N.length ps.length m mo ds = .stk := if_neg q
      rw [this] at h
      exact h.elim
  refine fnG_of F S len fun cdv A outer s H vs Q E hgd hr hsp => ?_
  obtain ⟨t, h1, h2⟩ := hb cdv A outer s H E hgd hr
  refine ⟨t, h1, ?_⟩
  have hlen := len vs H Q E hsp
  obtain ⟨G, p, vr, ds, mo, as, rfl, gh, hm, ow, hd, h⟩ := hsp
  refine h2.run (FS G H p as) _ (enOfS N.length mo ds) G H _ (gd_startD gh ow hd) ?_
  have hq : ds.length + 1 = ps.length := by rw [← dpa_len hd]; exact hlen
  have e1 : fnD N.length ps.length m mo ds = (endOf (m (enOfS N.length mo ds))).bind fun p => match pinAt p.2 0 with
    | some mo' => .ok (p.1, mo')
    | none => .stk := if_pos hq
  rw [e1] at h
  have fin : ∀ {d : D} {en' : En}, (match (match pinAt en' 0 with
      | some mo' => (.ok (d, mo') : Rs (D × MO))
      | none => .stk) with
    | .ok (d, mo') => ∀ v G' H', Gf (FS G H p as) G' H' → Own K G' H' p mo' as → mo'.pin1 = false → Dp K G' v d → Q v H'
    | _ => False) → ∀ v σ' G' H', Gd K (FS G H p as) G' H' σ' en' → Dp K G' v d → Q v H' := fun {d en'} h v σ' G' H' g' dv => by
    cases q0 : pinAt en' 0 with
    | none => rw [q0] at h; exact h.elim
    | some mo' =>
      rw [q0] at h
      obtain ⟨z1, z2⟩ := pinAt_some q0
      exact h v G' H' g'.gf (g'.pin 0 mo' (MO.pinS_0 z2) z1).2 (pinAt_1 q0) dv
  cases q : m (enOfS N.length mo ds) with
  | stk => rw [q] at h; exact h.elim
  | err c fs => rw [q] at h; exact h.elim
  | ok z =>
    obtain ⟨fl, en'⟩ := z
    rw [q] at h
    cases fl with
    | nx => exact fun σ' G' H' g' _ => fin h .non σ' G' H' g' .non
    | bk => exact h.elim
    | ct => exact h.elim
    | rt d => exact fun v σ' G' H' g' _ dv => fin h v σ' G' H' g' dv
end
section
variable {K : PySem.W.Frag} {mg : Str → Option Value} {E : L2.St → XK} {F : Fm} {σ : L2.St} {G G' H H' : Hp} {en : En}
def eCallD (m : MO → List D → Rs (D × MO)) (i : Nat) (a : Am) : Em := fun en => match pinAt en i with
  | none => .stk
  | some _ => (a en).bind fun p => match pinAt p.2 i with
    | none => .stk
    | some mo => (m mo p.1).calm.bind fun q => .ok (q.1, p.2.set i (.own q.2))
theorem Gd.ownM {i : Nat} {mo : MO} (g : Gd K F G H σ en) (e : en[i]? = some (.own mo)) : ∃ v as, σ[i]? = some (some v) ∧ Own K G H v mo as ∧ ∀ a ∈ as, F.Z a ∨ F.H0 a = none := by
  obtain ⟨om, s⟩ := g.sat
  obtain ⟨v, as, h1, h2, h3⟩ := s i _ e
  exact ⟨v, as, h1, h2, fun a ha => (h3 a ha).2⟩
theorem se_callM {m : MO → List D → Rs (D × MO)} {i : Nat} {ta : TA} {a : Am} {E1 : L2.St → XK} (h1 : SA K mg E ta a) : SE K mg E (tCallG (spD K mg m) E1 (tCons (tVar i) ta)) (eCallD m i a) := by
  refine ⟨fun F σ en G H Q g h => ?_⟩
  unfold eCallD at h
  split at h
  · exact h.elim
  rename_i m0 q0
  obtain ⟨v, as, hv, ow0, _⟩ := g.ownM (pinAt_some q0).1
  refine ⟨v, hv, ?_⟩
  show ta σ H _
  refine sa_bind h1 g poE_err id h fun ds en1 vs G1 H1 p1 g1 s1 d1 => ?_
  split at p1
  · exact p1.elim
  rename_i mo q1
  obtain ⟨z1, z2⟩ := pinAt_some q1
  obtain ⟨v', as', hv', ow, _⟩ := g1.ownM z1
  rw [hv] at hv'; cases hv'
  obtain ⟨⟨d, mo'⟩, em, p2⟩ := calm_bind (P := PoE K mg (E σ) F σ G Q) id p1
  refine ⟨G1, v, vs, ds, mo, as', rfl, g1.gf.gh, z2, ow, d1, ?_⟩
  rw [show m mo ds = .ok (d, mo') from em]
  intro u G' H' f ow' hp du
  exact p2 u G' H' (g1.callM z2 (pin1_no hp) z1 hv ow f ow') (s1.trans f.g0) du
def dlAt (en : En) (i : Nat) : Option (List D) := match en[i]? with
  | some (.own (.dl ds)) => some ds
  | some (.own (.tl ds)) => some ds
  | _ => none
theorem dlAt_some {en : En} {i : Nat} {ds : List D} (h : dlAt en i = some ds) : en[i]? = some (.own (.dl ds)) ∨ en[i]? = some (.own (.tl ds)) := by
  unfold dlAt at h
  split at h
  · cases h; exact .inl (by assumption)
  · cases h; exact .inr (by assumption)
  · cases h
/-- other items in such a list -/
def dlK (en : En) (i : Nat) (ds : List D) : SV := match en[i]? with
  | some (.own (.tl _)) => .own (.tl ds)
  | _ => .own (.dl ds)
theorem dlK_dl {en : En} {i : Nat} {ds es : List D} (h : en[i]? = some (.own (.dl ds))) : dlK en i es = .own (.dl es) := by unfold dlK; rw [h]
theorem dlK_tl {en : En} {i : Nat} {ds es : List D} (h : en[i]? = some (.own (.tl ds))) : dlK en i es = .own (.tl es) := by unfold dlK; rw [h]
theorem Gd.ownD {i : Nat} {ds : List D} (g : Gd K F G H σ en) (e : dlAt en i = some ds) : ∃ p vs, σ[i]? = some (some (.ref p)) ∧ G p = none ∧ H p = some (.lst vs) ∧ DpAll K G vs ds ∧ (F.Z p ∨ F.H0 p = none) := by
  obtain ⟨om, s⟩ := g.sat
  rcases dlAt_some e with e | e
  · obtain ⟨v, as, h1, ⟨p, vs, rfl, rfl, h4, h5, h6⟩, h3⟩ := s i _ e
    exact ⟨p, vs, h1, h4, h5, h6, (h3 p (by simp)).2⟩
  · obtain ⟨v, as, h1, ⟨p, vs, rfl, rfl, h4, h5, h6, _⟩, h3⟩ := s i _ e
    exact ⟨p, vs, h1, h4, h5, h6, (h3 p List.mem_cons_self).2⟩
theorem Gd.mutD {i : Nat} {p : Addr} {ws vs : List V} {ds es : List D} (g : Gd K F G H σ en) (he : dlAt en i = some ds) (hs : σ[i]? = some (some (.ref p))) (hg : G p = none) (hh : H p = some (.lst vs)) (hv : DpAll K G vs ds) (hd : DpAll K G ws es) :
    Gd K F G (upd H p (.lst ws)) σ (en.set i (dlK en i es)) := by
  have gf : ∀ as : List Addr, p ∈ as → Gf (FS G H (.ref p) as) G (upd H p (.lst ws)) := fun as hp => ⟨Same.refl _, fun a x e => by
      have : a ≠ p := fun z => by rw [z, hg] at e; cases e
      rw [upd_ne this]; exact g.gf.gh a x e, fun _ _ h _ => h, fun a o e hz => by
      have : a ≠ p := fun z => hz (by rw [z]; exact hp)
      rw [upd_ne this]; exact e, fun a h => by
      by_cases q : a = p
      · subst q; rw [upd_same]; exact fun z => by cases z
      · rw [upd_ne q]; exact h⟩
  rcases dlAt_some he with e | e
  · rw [dlK_dl e]
    exact g.callM rfl (fun h => nomatch h) e hs (as := [p]) ⟨p, vs, rfl, rfl, hg, hh, hv⟩ (gf _ (List.mem_singleton_self _)) ⟨p, ws, rfl, rfl, hg, upd_same, hd⟩
  · rw [dlK_tl e]
    obtain ⟨om, s⟩ := g.sat
    obtain ⟨v, as, h1, ⟨p', vs', rfl, rfl, h4, h5, h6, h7⟩, h3⟩ := s i _ e
    rw [hs] at h1; cases h1
    refine g.callM rfl (fun h => nomatch h) e hs (as := p :: tbA K) ⟨p, vs, rfl, rfl, hg, hh, hv, h7⟩ (gf _ List.mem_cons_self) ⟨p, ws, rfl, rfl, hg, upd_same, hd, h7.keep (Same.refl _) (fun a ha => (h7.live a ha).2) fun a ha x hx => ?_⟩
    have : a ≠ p := fun z => h7.not hh (by rw [← z]; exact ha)
    rw [upd_ne this]; exact hx
def eDIx (i : Nat) (m : Em) : Em := fun en => match dlAt en i with
  | none => .stk
  | some _ => (m en).bind fun p => match dlAt p.2 i, p.1 with
    | some ds, .int k => match atI ds k with
      | some d => .ok (d, p.2)
      | none => .stk
    | _, _ => .stk
theorem se_dIx {i : Nat} {te : TE} {m : Em} (h1 : SE K mg E te m) : SE K mg E (tOp (rIx K) (tVar i) te) (eDIx i m) := by
  refine ⟨fun F σ en G H Q g h => ?_⟩
  unfold eDIx at h
  split at h
  · exact h.elim
  rename_i ds0 e0
  obtain ⟨p0, vs0, k1, _⟩ := g.ownD e0
  refine ⟨.ref p0, k1, ?_⟩
  show te σ H _
  refine se_bind h1 g poE_err id h fun d en1 v G1 H1 p1 g1 s1 d1 => ?_
  split at p1
  · rename_i ds k e1 e2
    have e2' : d = .int k := e2
    subst e2'
    cases d1
    obtain ⟨p, vs, l1, l2, l3, l4, l5⟩ := g1.ownD e1
    rw [k1] at l1; cases l1
    split at p1
    · rename_i z hz
      obtain ⟨w, hw, dw⟩ := dpa_atI l4 hz
      exact .inl ⟨p0, vs, k, w, rfl, rfl, .inl (.inl l3), hw, p1 w G1 H1 g1 s1 dw⟩
    · exact p1.elim
  · exact p1.elim
end
section
variable {K : PySem.W.Frag} {mg : Str → Option Value} {E : XK}
def aRetL (m : Am) : Am := fun en => (m en).calm
theorem so_retL {te : TE} {m : Am} (h1 : SL K mg (fun _ => E) te m) : SOw K mg E (tRet te) (aRetL m) := by
  refine ⟨fun F σ en G H D g h => ?_⟩
  show te σ H _
  refine h1.run F σ en G H _ g ?_
  unfold aRetL at h
  cases q : m en with
  | stk => rw [q] at h; exact h
  | err c fs => rw [q] at h; exact (show False from h).elim
  | ok z =>
    obtain ⟨ds, en1⟩ := z
    rw [q] at h
    intro p vs G' H' g' s' hg hh hd h0 _
    exact h p vs σ G' H' g' s' hg hh hd (.inr h0)
end
end Mir
end
section
set_option Elab.async false
set_option linter.all false
set_option maxRecDepth 100000
set_option maxHeartbeats 4000000
namespace Mir
open PySem PySem.Spec PyProof.Rows L2
abbrev Wm := En → Rs (MO × En)
section
variable {K : PySem.W.Frag} {mg : Str → Option Value} {E : L2.St → XK} {F : Fm} {σ : L2.St} {G G' H H' : Hp} {en : En}
theorem Free.keep {q : Addr} {mo : MO} (g : Gd K F G H σ en) (k : ∀ {i : Nat} {mo : MO} {v : V} {as : List Addr}, en[i]? = some (SV.own mo) → σ[i]? = some (some v) → Own K G H v mo as → Own K G' H' v mo as) (f : Free K G H σ en q) : Free K G' H' σ en q := by
  intro i mo v as e1 e2 ow
  obtain ⟨om, s⟩ := g.sat
  obtain ⟨v', as', k1, k2, k3⟩ := s i _ e1
  rw [e2] at k1; cases k1
  obtain rfl := ow.inj (k e1 e2 k2)
  exact f _ _ _ _ e1 e2 k2
theorem Gd.otherZ {p : Addr} {o : HO} (g : Gd K F G H σ en) (hg : G p = none) (h0 : F.Z p ∨ F.H0 p = none) (fr : Free K G H σ en p) : Gd K F G (upd H p o) σ en ∧ ∀ q, Free K G H σ en q → Free K G (upd H p o) σ en q := by
  have keep : ∀ {i : Nat} {mo : MO} {v : V} {as : List Addr}, en[i]? = some (SV.own mo) → σ[i]? = some (some v) → Own K G H v mo as → Own K G (upd H p o) v mo as := fun {i mo v as} e1 e2 ow =>
    ow.keep (Same.refl _) (fun a ha => (ow.live a ha).2) fun a ha x hx => by
      have q : a ≠ p := fun z => fr _ _ _ _ e1 e2 ow (by rw [← z]; exact ha)
      rw [upd_ne q]; exact hx
  refine ⟨?_, fun q f => Free.keep (mo := .lst []) g keep f⟩
  obtain ⟨om, s⟩ := g.sat
  refine ⟨⟨g.gf.g0, fun a x e => ?_, g.gf.nf, fun a x e hz => ?_, fun a h => ?_⟩, g.len, ⟨om, fun i sv e => ?_⟩, fun i0 mo hm e => ?_⟩
  · have : a ≠ p := fun z => by rw [z, hg] at e; cases e
    rw [upd_ne this]; exact g.gf.gh a x e
  · have : a ≠ p := fun z => by
      subst z
      rcases h0 with z | z
      · exact hz z
      · rw [z] at e; cases e
    rw [upd_ne this]; exact g.gf.pres a x e hz
  · by_cases q : a = p
    · subst q; rw [upd_same]; exact fun z => by cases z
    · rw [upd_ne q]; exact g.gf.live a h
  · have q := s i sv e
    cases sv with
    | un => trivial
    | dat d => exact q
    | own mo => obtain ⟨v, as, h1, h2, h3⟩ := q; exact ⟨v, as, h1, keep e h1 h2, h3⟩
  · obtain ⟨h1, h2⟩ := g.pin i0 mo hm e
    exact ⟨h1, keep e h1 h2⟩
theorem Gd.adoptF {p : Addr} {o : HO} (g : Gd K F G H σ en) (hg : G p = none) (fr : Free K G H σ en p) : ∀ q, Free K G H σ en q → Free K (upd G p o) H σ en q := fun q f =>
  Free.keep (mo := .lst []) g (fun {i mo v as} e1 e2 ow => ow.keep (same_upd hg) (fun a ha => by
    have q : a ≠ p := fun z => fr _ _ _ _ e1 e2 ow (by rw [← z]; exact ha)
    rw [upd_ne q]; exact (ow.live a ha).2) fun _ _ _ h => h) f
theorem set_back {i : Nat} {v : V} {σ : L2.St} (h : σ[i]? = some (some v)) : σ.set i (some v) = σ := by
  refine List.ext_getElem? fun j => ?_
  by_cases q : i = j
  · subst q
    rw [List.getElem?_set_self (List.getElem?_eq_some_iff.mp h).1, h]
  · rw [List.getElem?_set_ne q]
/-- a slot's own thing, for a while nobody's -/
theorem Gd.aside {i : Nat} {mo : MO} (g : Gd K F G H σ en) (e : en[i]? = some (.own mo)) : ∃ v as, σ[i]? = some (some v) ∧ Own K G H v mo as ∧ (∀ a ∈ as, F.Z a ∨ F.H0 a = none) ∧ Gd K F G H σ (en.set i .un) ∧ ∀ a ∈ as, Free K G H σ (en.set i .un) a := by
  obtain ⟨om, s⟩ := g.sat
  obtain ⟨v, as, h1, h2, h3⟩ := s i _ e
  have hi : i < en.length := (List.getElem?_eq_some_iff.mp e).1
  refine ⟨v, as, h1, h2, fun a ha => (h3 a ha).2, ?_, fun a ha => ?_⟩
  · have z := g.setUn (i := i) (x := some v)
    rw [set_back h1] at z
    exact z
  · intro j mo2 v2 as2 e1 e2 ow hp
    have q : i ≠ j := fun z => by
      subst z
      rw [List.getElem?_set_self hi] at e1; cases e1
    rw [List.getElem?_set_ne q] at e1
    obtain ⟨v', as', l1, l2, l3⟩ := s j _ e1
    rw [e2] at l1; cases l1
    obtain rfl := ow.inj l2
    exact q ((h3 a ha).1.symm.trans (l3 a hp).1)
/-- something of nobody's becomes a slot's own -/
theorem Gd.setOwnG {i : Nat} {v : V} {mo : MO} {as : List Addr} (g : Gd K F G H σ en) (hv : σ[i]? = some (some v)) (ow : Own K G H v mo as) (h0 : ∀ a ∈ as, F.Z a ∨ F.H0 a = none) (fr : ∀ a ∈ as, Free K G H σ (en.set i .un) a) (hp : mo.pin = false) :
    Gd K F G H σ (en.set i (.own mo)) := by
  obtain ⟨om, s⟩ := g.sat
  refine ⟨g.gf, by rw [List.length_set, g.len], ⟨fun a => if a ∈ as then i else om a, fun j sv e => ?_⟩, fun i0 mo' hm e => ?_⟩
  · by_cases q : i = j
    · subst q
      by_cases hi : i < en.length
      · rw [List.getElem?_set_self hi] at e
        cases e
        exact ⟨v, as, hv, ow, fun a ha => ⟨if_pos ha, h0 a ha⟩⟩
      · rw [List.getElem?_eq_none (by rw [List.length_set]; omega)] at e
        cases e
    · rw [List.getElem?_set_ne q] at e
      have z := s j sv e
      cases sv with
      | un => trivial
      | dat d => exact z
      | own mo2 =>
        obtain ⟨v2, as2, h1, h2, h3⟩ := z
        refine ⟨v2, as2, h1, h2, fun a ha => ⟨?_, (h3 a ha).2⟩⟩
        have : a ∉ as := fun z => fr a z j _ _ _ (by rw [List.getElem?_set_ne q]; exact e) h1 h2 ha
        show (if a ∈ as then i else om a) = j
        rw [if_neg this]
        exact (h3 a ha).1
  · by_cases q : i = i0
    · subst q
      by_cases hi : i < en.length
      · rw [List.getElem?_set_self hi] at e; cases e; have hm := MO.pinS_p hm; rw [hp] at hm; cases hm
      · rw [List.getElem?_eq_none (by rw [List.length_set]; omega)] at e; cases e
    · rw [List.getElem?_set_ne q] at e
      exact g.pin i0 mo' hm e
theorem free_sub {i : Nat} {q : Addr} (f : Free K G H σ en q) : Free K G H σ (en.set i .un) q := by
  intro j mo v as e1 e2 ow
  by_cases z : i = j
  · subst z
    by_cases hi : i < en.length
    · rw [List.getElem?_set_self hi] at e1; cases e1
    · rw [List.getElem?_eq_none (by rw [List.length_set]; omega)] at e1; cases e1
  · rw [List.getElem?_set_ne z] at e1
    exact f j mo v as e1 e2 ow
/-- an expression worked out beside what is nobody's -/
theorem se_beside {te : TE} {m : Em} {Q : VK} {B : Type} {P : Rs B → Prop} {f : D × En → Rs B} {as : List Addr} (h : SE K mg E te m) (g : Gd K F G H σ en) (lv : ∀ a ∈ as, H a ≠ none ∧ G a = none) (fr : ∀ a ∈ as, Free K G H σ en a) (hs : ¬ P .stk)
    (p : P ((m en).calm.bind f)) (k : ∀ d en' v G' H', P (f (d, en')) → Gd K F G' H' σ en' → Same G G' → Dp K G' v d → (∀ a ∈ as, H' a ≠ none ∧ G' a = none) → (∀ a ∈ as, H' a = H a) → (∀ a ∈ as, Free K G' H' σ en' a) → Q v H') : te σ H Q := by
  obtain ⟨⟨d, en'⟩, em, p2⟩ := calm_bind hs p
  have hz : ∀ a ∈ as, ¬ (F.re K G H σ en).Z a := fun a ha => by
    rintro ⟨j, mo, v, bs, e1, e2, ow, hb⟩
    exact fr a ha j mo v bs e1 e2 ow hb
  refine h.run (F.re K G H σ en) σ en G H Q g.rebase ?_
  rw [show m en = .ok (d, en') from em]
  intro v G' H' g' s' hd
  have hh : ∀ a ∈ as, H' a = H a := fun a ha => by
    cases q : H a with
    | none => exact absurd q (lv a ha).1
    | some o => exact g'.gf.pres a o q (hz a ha)
  exact k d en' v G' H' p2 (g.back g') s' hd (fun a ha => ⟨by rw [hh a ha]; exact (lv a ha).1, g'.gf.nf a (lv a ha).1 (lv a ha).2 (hz a ha)⟩) hh fun a ha => g'.free (lv a ha).1 (hz a ha)
theorem lrow_get : ∀ {rs : List Addr} {ess : List (List D)} {a : Nat} {es : List D}, Paired (LRow K G H) rs ess → ess[a]? = some es → ∃ r, rs[a]? = some r ∧ LRow K G H r es
  | _, _, _, _, .nil, e => by simp at e
  | _, _, 0, _, .cons h _, e => by cases e; exact ⟨_, rfl, h⟩
  | _, _, a + 1, _, .cons _ t, e => lrow_get (a := a) t (by simpa using e)
theorem lrow_len : ∀ {rs : List Addr} {ess : List (List D)}, Paired (LRow K G H) rs ess → rs.length = ess.length
  | _, _, .nil => rfl
  | _, _, .cons _ t => by rw [List.length_cons, List.length_cons, lrow_len t]
theorem lrow_upd {p : Addr} {o : HO} : ∀ {rs : List Addr} {ess : List (List D)}, p ∉ rs → Paired (LRow K G H) rs ess → Paired (LRow K G (upd H p o)) rs ess
  | _, _, _, .nil => .nil
  | _, _, hn, .cons ⟨vs, h1, h2, h3⟩ t => .cons ⟨vs, h1, by rw [upd_ne fun z => hn (by rw [← z]; exact List.mem_cons_self)]; exact h2, h3⟩ (lrow_upd (fun z => hn (List.mem_cons_of_mem _ z)) t)
theorem lrow_set : ∀ {rs : List Addr} {ess : List (List D)} {a : Nat} {r : Addr} {ws : List V} {es : List D}, Paired (LRow K G H) rs ess → rs.Nodup → rs[a]? = some r → DpAll K G ws es → Paired (LRow K G (upd H r (.lst ws))) rs (ess.set a es)
  | _, _, _, _, _, _, .nil, _, e, _ => by simp at e
  | _, _, 0, _, _, _, .cons ⟨vs, h1, h2, h3⟩ t, nd, e, hd => by
    cases e
    exact .cons ⟨_, h1, upd_same, hd⟩ (lrow_upd (List.nodup_cons.mp nd).1 t)
  | r0 :: rs, _, a + 1, r, _, _, .cons ⟨vs, h1, h2, h3⟩ t, nd, e, hd => by
    have e' : rs[a]? = some r := by simpa using e
    have hne : r0 ≠ r := fun z => (List.nodup_cons.mp nd).1 (by rw [z]; exact List.mem_of_getElem? e')
    exact .cons ⟨vs, h1, by rw [upd_ne hne]; exact h2, h3⟩ (lrow_set (a := a) t (List.nodup_cons.mp nd).2 e' hd)
/-- a list of lists, one of whose rows is another one -/
theorem Own.setRow {v : V} {as : List Addr} {ess : List (List D)} {es es2 : List D} {a : Nat} (o : Own K G H v (.ll ess) as) (he : ess[a]? = some es) : ∃ p rs r vs, v = .ref p ∧ as = p :: rs ∧ rs[a]? = some r ∧ r ∈ as ∧ H p = some (.lst (rs.map V.ref)) ∧ rs.length = ess.length ∧ H r = some (.lst vs) ∧ DpAll K G vs es ∧ G r = none ∧
    ∀ ws es2, DpAll K G ws es2 → Own K G (upd H r (.lst ws)) v (.ll (ess.set a es2)) as := by
  obtain ⟨p, rs, e1, e2, nd, hG, hH, rows⟩ := o
  obtain ⟨r, hr, vs, r1, r2, r3⟩ := lrow_get rows he
  have hm : r ∈ rs := List.mem_of_getElem? hr
  refine ⟨p, rs, r, vs, e1, e2, hr, by rw [e2]; exact List.mem_cons_of_mem _ hm, hH, lrow_len rows, r2, r3, r1, fun ws es2 hd => ?_⟩
  have hne : p ≠ r := fun z => (List.nodup_cons.mp nd).1 (by rw [z]; exact hm)
  exact ⟨p, rs, e1, e2, nd, hG, by rw [upd_ne hne]; exact hH, lrow_set rows (List.nodup_cons.mp nd).2 hr hd⟩
def llAt (en : En) (i : Nat) : Option (List (List D)) := match en[i]? with
  | some (.own (.ll ess)) => some ess
  | _ => none
theorem llAt_some {en : En} {i : Nat} {ess : List (List D)} (h : llAt en i = some ess) : en[i]? = some (.own (.ll ess)) := by
  unfold llAt at h
  split at h
  · cases h; assumption
  · cases h
theorem atI_of_ixN {xs : List V} {kk : Int} {a : Nat} {v : V} (h : ixN xs.length kk = some a) (e : xs[a]? = some v) : atI xs kk = some v := by
  unfold atI
  rw [h]
  exact e
end
section
variable {K : PySem.W.Frag} {mg : Str → Option Value} {E : XK}
/-- x[i].append(e) -/
def mAppLL (x : Nat) (ix m : Em) : Sm := fun en => match llAt en x with
  | none => .stk
  | some ess => (ix (en.set x .un)).calm.bind fun q => match ixI ess.length q.1 with
    | none => .stk
    | some a => match ess[a]? with
      | none => .stk
      | some es => (m q.2).calm.bind fun r => if es.length < big then .ok (.nx, r.2.set x (.own (.ll (ess.set a (es ++ [r.1]))))) else .stk
theorem ss_appLL {x : Nat} {te ti : TE} {m ix : Em} (h1 : SE K mg (fun _ => E) ti ix) (h2 : SE K mg (fun _ => E) te m) :
    SS K mg E (tDrop (tBM K "list" rAppend (tOp (rIx K) (tVar x) ti) (tCons te tNil))) (mAppLL x ix m) := by
  refine ⟨fun F σ en G H D0 g h => ?_⟩
  unfold mAppLL at h
  split at h
  · exact h.elim
  rename_i ess e0
  obtain ⟨u, as, hv, ow, hz, ga, fr⟩ := g.aside (llAt_some e0)
  refine ⟨u, hv, ?_⟩
  show ti σ H _
  refine se_beside (P := PoS K mg E F G D0) h1 ga ow.live fr id h fun d2 en2 v2 G2 H2 p2 g2 s2 k2 l2 q2 f2 => ?_
  split at p2
  · exact p2.elim
  rename_i a ea
  obtain ⟨kk, rfl, ek⟩ := ixI_some ea
  cases k2
  split at p2
  · exact p2.elim
  rename_i es hes
  have ow2 : Own K G2 H2 u (.ll ess) as := ow.keep s2 (fun a ha => (l2 a ha).2) fun a ha x hx => by rw [q2 a ha]; exact hx
  obtain ⟨p, rs, r, vs, rfl, rfl, hr, hm, hP, hl, hR, hd, hGr, _⟩ := ow2.setRow (es2 := []) hes
  refine .inl ⟨p, rs.map V.ref, kk, .ref r, rfl, rfl, .inl (.inl hP), atI_of_ixN (by rw [List.length_map, hl]; exact ek) (by rw [List.getElem?_map, hr]; rfl), ?_⟩
  refine ⟨.inl ⟨rfl, vs, .inl (.inl hR)⟩, ?_⟩
  show te σ H2 _
  refine se_beside (P := PoS K mg E F G D0) h2 g2 l2 f2 id p2 fun d3 en3 v3 G3 H3 p3 g3 s3 k3 l3 q3 f3 => ?_
  split at p3
  case isFalse => exact p3.elim
  rename_i hbig
  have ow3 : Own K G3 H3 (.ref p) (.ll ess) (p :: rs) := ow2.keep s3 (fun a ha => (l3 a ha).2) fun a ha x hx => by rw [q3 a ha]; exact hx
  obtain ⟨p', rs', r', vs', e1, e2, hr', hm', hP', hl', hR', hd', hG', up⟩ := ow3.setRow (es2 := []) hes
  cases e1
  cases e2
  rw [hr] at hr'
  cases hr'
  refine ⟨r, vs', v3, rfl, rfl, hR', by rw [dpa_len hd']; exact big_lt hbig, ?_⟩
  obtain ⟨g4, f4⟩ := g3.otherZ (o := .lst (vs' ++ [v3])) hG' (hz r hm) (f3 r hm)
  exact p3 σ G3 _ (g4.setOwnG hv (up _ _ (dpa_app hd' (dpa_one k3))) hz (fun a ha => free_sub (f4 a (f3 a ha))) rfl) (s2.trans s3)
end
end Mir
end
section
set_option Elab.async false
set_option linter.all false
set_option maxRecDepth 100000
set_option maxHeartbeats 4000000
namespace Mir
open PySem PySem.Spec PyProof.Rows L2
section
variable {K : PySem.W.Frag} {mg : Str → Option Value} {E : L2.St → XK} {F : Fm} {σ : L2.St} {G G' H H' : Hp} {en : En}
theorem adoptRows : ∀ {rs : List Addr} {ess : List (List D)} {G : Hp}, Gd K F G H σ en → rs.Nodup → Paired (LRow K G H) rs ess → (∀ r ∈ rs, F.Z r ∨ F.H0 r = none) → (∀ r ∈ rs, Free K G H σ en r) →
    ∃ G3, Gd K F G3 H σ en ∧ Same G G3 ∧ (∀ p, p ∉ rs → G3 p = G p) ∧ DpAll K G3 (rs.map V.ref) (ess.map PyData.list) ∧ ∀ q, Free K G H σ en q → Free K G3 H σ en q
  | _, _, G, g, _, .nil, _, _ => ⟨G, g, Same.refl _, fun _ _ => rfl, .nil, fun _ f => f⟩
  | r :: rs, es :: ess, G, g, nd, .cons ⟨vs, h1, h2, h3⟩ t, hz, fr => by
    obtain ⟨n1, n2⟩ := List.nodup_cons.mp nd
    have g1 := g.adopt h1 h2 (hz r List.mem_cons_self) (fr r List.mem_cons_self)
    have f1 := g.adoptF (o := .lst vs) h1 (fr r List.mem_cons_self)
    have sm : Same G (upd G r (.lst vs)) := same_upd h1
    have t1 : Paired (LRow K (upd G r (.lst vs)) H) rs ess := by
      have gen : ∀ {rs : List Addr} {ess : List (List D)}, r ∉ rs → Paired (LRow K G H) rs ess → Paired (LRow K (upd G r (.lst vs)) H) rs ess := by
        intro rs ess hn t
        induction t with
        | nil => exact .nil
        | @cons a b l1 l2 h t ih =>
          obtain ⟨us, k1, k2, k3⟩ := h
          exact .cons ⟨us, by rw [upd_ne fun z => hn (by rw [z]; exact List.mem_cons_self)]; exact k1, k2, dpa_mono sm _ _ k3⟩ (ih fun z => hn (List.mem_cons_of_mem _ z))
      exact gen n1 t
    obtain ⟨G3, g3, s3, o3, d3, f3⟩ := adoptRows g1 n2 t1 (fun a ha => hz a (List.mem_cons_of_mem _ ha)) fun a ha => f1 a (fr a (List.mem_cons_of_mem _ ha))
    refine ⟨G3, g3, sm.trans s3, fun p hp => ?_, .cons (.lst (.inl (.inl (s3 r _ upd_same))) (dpa_mono (sm.trans s3) _ _ h3)) d3, fun q f => f3 q (f1 q f)⟩
    rw [o3 p fun z => hp (List.mem_cons_of_mem _ z), upd_ne fun z => hp (by rw [z]; exact List.mem_cons_self)]
/-- a list of lists, as data from here on -/
def eFrz (x : Nat) : Em := fun en => match en[x]? with
  | some (.dat d) => .ok (d, en)
  | some (.own (.ll ess)) => .ok (.list (ess.map PyData.list), en.set x (.dat (.list (ess.map PyData.list))))
  | _ => .stk
theorem se_frz {x : Nat} : SE K mg E (tVar x) (eFrz x) := by
  refine ⟨fun F σ en G H Q g h => ?_⟩
  unfold eFrz at h
  split at h
  · rename_i d e
    obtain ⟨v, h1, h2⟩ := g.dat e
    exact ⟨v, h1, h v G H g (Same.refl _) h2⟩
  · rename_i ess e
    obtain ⟨u, as, hv, ow, hz, ga, fr⟩ := g.aside e
    obtain ⟨p, rs, rfl, rfl, nd, hG, hH, rows⟩ := ow
    obtain ⟨n1, n2⟩ := List.nodup_cons.mp nd
    obtain ⟨G3, g3, s3, o3, d3, f3⟩ := adoptRows ga n2 rows (fun a ha => hz a (List.mem_cons_of_mem _ ha)) fun a ha => fr a (List.mem_cons_of_mem _ ha)
    have hG3 : G3 p = none := by rw [o3 p n1]; exact hG
    have g4 := g3.adopt hG3 hH (hz p List.mem_cons_self) (f3 p (fr p List.mem_cons_self))
    have s4 : Same G3 (upd G3 p (.lst (rs.map V.ref))) := same_upd hG3
    have dp : Dp K (upd G3 p (.lst (rs.map V.ref))) (.ref p) (.list (ess.map PyData.list)) := .lst (.inl (.inl upd_same)) (dpa_mono s4 _ _ d3)
    have g5 := g4.setDat (i := x) dp
    rw [List.set_set, set_back hv] at g5
    exact ⟨.ref p, hv, h (.ref p) _ H g5 (s3.trans s4) dp⟩
  · exact h.elim
def PoW (K : PySem.W.Frag) (mg : Str → Option Value) (E : XK) (F : Fm) (σ : L2.St) (G : Hp) (Q : VK) : Rs (MO × En) → Prop
  | .ok (mo, en') => ∀ v as G' H', Gd K F G' H' σ en' → Same G G' → Own K G' H' v mo as → (∀ a ∈ as, F.H0 a = none) → (∀ a ∈ as, Free K G' H' σ en' a) → Q v H'
  | .err c fs => ∀ cls dx H', ErrAt K mg F c fs cls dx H' → E cls dx H'
  | .stk => False
structure SW (K : PySem.W.Frag) (mg : Str → Option Value) (E : L2.St → XK) (te : TE) (m : Wm) : Prop where
  run : ∀ F σ en G H Q, Gd K F G H σ en → PoW K mg (E σ) F σ G Q (m en) → te σ H Q
theorem poW_err {Q : VK} (c fs) (h : PoW K mg (E σ) F σ G Q (.err c fs)) : ∀ cls dx H', ErrAt K mg F c fs cls dx H' → E σ cls dx H' := h
def wlGo (vs : List Nat) (gm : Gm) (t : Tm) (m : Am) : List D → En → Rs (List (List D) × En)
  | [], en => .ok ([], en)
  | d :: ds, en => (gm d en).calm.bind fun en1 => (t en1).calm.bind fun p => if p.1 = true then
      (m p.2).calm.bind fun q => (wlGo vs gm t m ds (wipeE q.2 vs)).bind fun r => .ok (q.1 :: r.1, r.2)
    else wlGo vs gm t m ds (wipeE p.2 vs)
/-- [a new list for ..] -/
def wLc (im : Im) (vs : List Nat) (gm : Gm) (t : Tm) (m : Am) : Wm := fun en => (im en).bind fun p => if noOwn p.2 vs = true ∧ p.1.length ≤ big then
    (wlGo vs gm t m p.1 (wipeE p.2 vs)).calm.bind fun r => .ok (.ll r.1, restE p.2 r.2 vs)
  else .stk
theorem lrow_snoc {rs : List Addr} {ess : List (List D)} {r : Addr} {es : List D} (h : Paired (LRow K G H) rs ess) (h2 : LRow K G H r es) : Paired (LRow K G H) (rs ++ [r]) (ess ++ [es]) := by
  induction h with
  | nil => exact .cons h2 .nil
  | cons a t ih => exact .cons a ih
theorem sw_lc {wi : TI} {im : Im} {vs js : List Nat} {gt : TG} {gm : Gm} {tt : TT} {t : Tm} {te : TE} {m : Am} (h : SI K mg E wi im) (hj : ∀ j ∈ js, j ∈ vs) (hg : SG K js gt gm) (ht : ST K mg (fun _ _ _ _ => False) tt t) (hm : SL K mg (fun _ _ _ _ => False) te m) :
    SW K mg E (tLc wi gt tt te vs) (wLc im vs gm t m) := by
  refine ⟨fun F σ en G H Q g h0 => ?_⟩
  show wi σ H _
  refine si_bind h g poW_err id h0 fun ds en1 J G1 H1 p1 g1 s1 it => ?_
  have p1' : PoW K mg (E σ) F σ G Q (if noOwn en1 vs = true ∧ ds.length ≤ big then (wlGo vs gm t m ds (wipeE en1 vs)).calm.bind fun r => .ok (.ll r.1, restE en1 r.2 vs) else .stk) := p1
  split at p1'
  case isFalse => exact p1'.elim
  rename_i hno
  obtain ⟨no, hlen⟩ := hno
  obtain ⟨⟨all, enF⟩, eF, pF⟩ := calm_bind (P := PoW K mg (E σ) F σ G Q) id p1'
  intro L hL
  have hGL : G1 L = none := Same.free g1.gf.gh hL
  have h0L := h0_new g1 hL
  have f := gf0_new (o := .lst []) g1.gf.gh hL
  have gw := (g1.grow f).wipe (vs := vs)
  have frL := free_new (g1.wipe (vs := vs)) hL f
  refine ⟨fun i k H' => ∃ G' en' rs ess ds', k = ds.length - i ∧ i ≤ ds.length ∧ Gd K F G' H' (wipe σ vs) en' ∧ Same G1 G' ∧ Own K G' H' (.ref L) (.ll ess) (L :: rs) ∧ ess.length ≤ i ∧ (∀ a ∈ L :: rs, F.H0 a = none) ∧ (∀ a ∈ L :: rs, Free K G' H' (wipe σ vs) en' a) ∧
    wlGo vs gm t m (ds.drop i) en' = .ok (ds', enF) ∧ ess ++ ds' = all, ⟨ds.length, G1, wipeE en1 vs, [], [], all, rfl, Nat.zero_le _, gw, Same.refl _, ⟨L, [], rfl, rfl, by simp, hGL, upd_same, .nil⟩, Nat.le_refl _, fun a ha => by
      have : a = L := by simpa using ha
      subst this; exact h0L, fun a ha => by
      have : a = L := by simpa using ha
      subst this; exact frL, eF, rfl⟩, ?_⟩
  rintro i k H' ⟨G', en', rs, ess, ds', rfl, hi, g', s', ow', hle, h0', fr', e', ea⟩
  obtain ⟨it1, it2⟩ := it i G' H' s' g'.gf.gh
  cases hd : ds[i]? with
  | none =>
    have hle := List.getElem?_eq_none_iff.mp hd
    rw [List.drop_eq_nil_of_le hle] at e'
    have e2 : ds' = [] ∧ enF = en' := by
      have : (Rs.ok (([] : List (List D)), en')) = .ok (ds', enF) := e'
      injection this with this
      injection this with h1 h2
      exact ⟨h1.symm, h2.symm⟩
    obtain ⟨rfl, rfl⟩ := e2
    rw [List.append_nil] at ea
    subst ea
    refine .inl ⟨it2 hd, pF (.ref L) (L :: rs) G' H' (g1.rest no s' g') (s1.trans s') ow' h0' fun q hq j mo v as e1 e2 ow => ?_⟩
    by_cases hj' : j ∈ vs
    · have hl : en1.length = enF.length := by rw [g1.len, g'.len, wipe_length]
      exact absurd (restE_at hl hj' e1) (noOwn_at no hj')
    · rw [restE_other hj'] at e1
      exact fr' q hq j mo v as e1 (by rw [wipe_other hj']; exact e2) ow
  | some d =>
    obtain ⟨go, yl⟩ := it1 d hd
    have hlt := (List.getElem?_eq_some_iff.mp hd).1
    rw [drop_some hd] at e'
    have e'' : ((gm d en').calm.bind fun en1 => (t en1).calm.bind fun p => if p.1 = true then
        (m p.2).calm.bind fun q => (wlGo vs gm t m (ds.drop (i + 1)) (wipeE q.2 vs)).bind fun r => .ok (q.1 :: r.1, r.2)
      else wlGo vs gm t m (ds.drop (i + 1)) (wipeE p.2 vs)) = .ok (ds', enF) := e'
    obtain ⟨en2, q2, e3⟩ := calm_is e''
    obtain ⟨⟨b, en3⟩, q3, e4⟩ := calm_is e3
    refine .inr ⟨go, fun H2 => ∃ G2 en2 rs2 ess2 ds2, Gd K F G2 H2 (wipe σ vs) en2 ∧ Same G1 G2 ∧ Own K G2 H2 (.ref L) (.ll ess2) (L :: rs2) ∧ ess2.length ≤ i + 1 ∧ (∀ a ∈ L :: rs2, F.H0 a = none) ∧ (∀ a ∈ L :: rs2, Free K G2 H2 (wipe σ vs) en2 a) ∧
      wlGo vs gm t m (ds.drop (i + 1)) en2 = .ok (ds2, enF) ∧ ess2 ++ ds2 = all, fun H2 ⟨G2, en2, acc2, da2, ds2, z1, z2, z3, z5, z6, z7, z8, z9⟩ => ⟨ds.length - (i + 1), by omega, G2, en2, acc2, da2, ds2, rfl, by omega, z1, z2, z3, z5, z6, z7, z8, z9⟩, fun x H2 y => ?_⟩
    obtain ⟨G2, f2, dx⟩ := yl x H2 y
    have gR := g'.rebase
    have lv := ow'.live
    have hz : ∀ a ∈ L :: rs, ¬ (F.re K G' H' (wipe σ vs) en').Z a := fun a ha => by
      rintro ⟨j, mo, v, as, e1, e2, ow, hb⟩
      exact fr' a ha j mo v as e1 e2 ow hb
    have g2 := gR.grow f2
    refine hg.run _ (wipe σ vs) en' G2 H2 x d _ g2 dx ?_
    rw [show gm d en' = .ok en2 from q2]
    intro σ3 hl3 hk3 g3
    have hw : wipe σ3 vs = wipe σ vs := wipe_eq (by rw [hl3, wipe_length]) fun k hk => hk3 k fun z => hk (hj k z)
    refine ⟨hw, ?_⟩
    refine ht.run _ σ3 en2 G2 H2 _ g3 ?_
    rw [show t en2 = .ok (b, en3) from q3]
    intro G4 H4 g4 s4
    have sG4 : Same G' G4 := f2.g0.trans s4
    have ow4 : Own K G4 H4 (.ref L) (.ll ess) (L :: rs) := ow'.keep sG4 (fun a ha => g4.gf.nf a (lv a ha).1 (lv a ha).2 (hz a ha)) fun a ha x hx => g4.gf.pres a x hx (hz a ha)
    cases b with
    | false =>
      have gw := g'.back (g4.wipe (vs := vs))
      rw [hw] at gw
      have e5 : wlGo vs gm t m (ds.drop (i + 1)) (wipeE en3 vs) = .ok (ds', enF) := e4
      refine ⟨G4, wipeE en3 vs, rs, ess, ds', gw, s'.trans sG4, ow4, by omega, h0', fun a ha => ?_, e5, ea⟩
      have frw := (g4.wipe (vs := vs)).free (lv a ha).1 (hz a ha)
      rw [hw] at frw
      exact frw
    | true =>
      rw [if_pos rfl]
      have e5 : ((m en3).calm.bind fun q => (wlGo vs gm t m (ds.drop (i + 1)) (wipeE q.2 vs)).bind fun r => .ok (q.1 :: r.1, r.2)) = .ok (ds', enF) := e4
      obtain ⟨⟨z, en4⟩, q5, e6⟩ := calm_is e5
      obtain ⟨⟨dsr, enr⟩, q6, e7⟩ := bind_is e6
      injection e7 with e7
      injection e7 with e8 e9
      have e9' : enr = enF := e9
      subst e9'
      refine hm.run _ σ3 en3 G4 H4 _ g4 ?_
      rw [show m en3 = .ok (z, en4) from q5]
      intro r us G5 H5 g5 s5 rG rH rD r0 rF
      have sG5 : Same G' G5 := sG4.trans s5
      have ow5 : Own K G5 H5 (.ref L) (.ll ess) (L :: rs) := ow'.keep sG5 (fun a ha => g5.gf.nf a (lv a ha).1 (lv a ha).2 (hz a ha)) fun a ha x hx => g5.gf.pres a x hx (hz a ha)
      have r0' : H' r = none := r0
      have gw := g'.back (g5.wipe (vs := vs))
      rw [hw] at gw
      have frw : ∀ a ∈ L :: rs, Free K G5 H5 (wipe σ vs) (wipeE en4 vs) a := fun a ha => by
        have frw := (g5.wipe (vs := vs)).free (lv a ha).1 (hz a ha)
        rw [hw] at frw
        exact frw
      have frr : Free K G5 H5 (wipe σ vs) (wipeE en4 vs) r := by
        have := free_wipe (vs := vs) rF
        rw [hw] at this
        exact this
      have hne : ∀ a ∈ L :: rs, a ≠ r := fun a ha z => (lv a ha).1 (by rw [z]; exact r0')
      obtain ⟨L', rs', e1, e2, nd, LG, LH, rows⟩ := ow5
      cases e1
      cases e2
      obtain ⟨n1, n2⟩ := List.nodup_cons.mp nd
      obtain ⟨ga, fa⟩ := gw.otherZ (o := .lst ((rs ++ [r]).map V.ref)) LG (.inr (h0' L List.mem_cons_self)) (frw L List.mem_cons_self)
      have hll := lrow_len rows
      refine ⟨rs.map V.ref, LH, by
        rw [List.length_map, hll, sizeLine_eq]
        have : ds.length ≤ 100000 := hlen
        omega, G5, wipeE en4 vs, rs ++ [r], ess ++ [z], dsr, ?_, s'.trans sG5, ⟨L, rs ++ [r], rfl, rfl, ?_, LG, ?_, ?_⟩, by rw [List.length_append]; exact Nat.succ_le_succ hle, ?_, ?_, q6, ?_⟩
      · rw [show rs.map V.ref ++ [V.ref r] = (rs ++ [r]).map V.ref by rw [List.map_append]; rfl]
        exact ga
      · refine List.nodup_cons.mpr ⟨fun z => ?_, ?_⟩
        · rcases List.mem_append.mp z with z | z
          · exact n1 z
          · exact hne L List.mem_cons_self (List.mem_singleton.mp z)
        · rw [List.nodup_append]
          exact ⟨n2, by simp, fun a ha b hb e => hne a (List.mem_cons_of_mem _ ha) (by rw [e]; exact List.mem_singleton.mp hb)⟩
      · rw [upd_same, List.map_append]; rfl
      · have hrL : r ≠ L := fun z => hne L List.mem_cons_self z.symm
        exact lrow_snoc (lrow_upd n1 rows) ⟨us, rG, by rw [upd_ne hrL]; exact rH, rD⟩
      · intro a ha
        rcases List.mem_cons.mp ha with rfl | ha
        · exact h0' _ List.mem_cons_self
        · rcases List.mem_append.mp ha with ha | ha
          · exact h0' _ (List.mem_cons_of_mem _ ha)
          · rw [List.mem_singleton.mp ha]
            exact h0_new g' r0'
      · intro a ha
        rw [show rs.map V.ref ++ [V.ref r] = (rs ++ [r]).map V.ref by rw [List.map_append]; rfl]
        rcases List.mem_cons.mp ha with rfl | ha
        · exact fa _ (frw _ List.mem_cons_self)
        · rcases List.mem_append.mp ha with ha | ha
          · exact fa _ (frw _ (List.mem_cons_of_mem _ ha))
          · rw [List.mem_singleton.mp ha]
            exact fa _ frr
      · rw [← ea, ← e8, List.append_assoc]
        rfl
end
section
variable {K : PySem.W.Frag} {mg : Str → Option Value} {E : XK}
/-- a = a new thing, which stays the name's own -/
def mAsgW (i : Nat) (m : Wm) : Sm := fun en => (m en).bind fun p => if p.1.pin = false then .ok (.nx, p.2.set i (.own p.1)) else .stk
theorem ss_asgW {i : Nat} {te : TE} {m : Wm} (h1 : SW K mg (fun _ => E) te m) : SS K mg E (tAsg te (gName i)) (mAsgW i m) := by
  refine ⟨fun F σ en G H D g h => ?_⟩
  show te σ H _
  refine h1.run F σ en G H _ g ?_
  unfold mAsgW at h
  cases q : m en with
  | stk => rw [q] at h; exact h
  | err c fs => rw [q] at h; exact h
  | ok z =>
    obtain ⟨mo, en1⟩ := z
    rw [q] at h
    have h' : PoS K mg E F G D (if mo.pin = false then .ok (.nx, en1.set i (.own mo)) else .stk) := h
    split at h'
    case isFalse => exact h'.elim
    rename_i hp
    intro v as G' H' g' s' ow h0 fr
    by_cases hi : i < σ.length
    · have g2 := g'.setUn (i := i) (x := some v)
      have hv : (σ.set i (some v))[i]? = some (some v) := List.getElem?_set_self hi
      have g3 := g2.setOwnG (i := i) hv ow (fun a ha => .inr (h0 a ha)) (fun a ha => ?_) hp
      · rw [List.set_set] at g3
        exact h' _ G' H' g3 s'
      · rw [List.set_set]
        intro j mo2 v2 as2 e1 e2 ow2
        by_cases z : i = j
        · subst z
          rw [List.getElem?_set_self (by rw [g'.len]; exact hi)] at e1; cases e1
        · rw [List.getElem?_set_ne z] at e1 e2
          exact fr a ha j mo2 v2 as2 e1 e2 ow2
    · have e1 : σ.set i (some v) = σ := List.set_eq_of_length_le (by omega)
      have e2 : en1.set i (.own mo) = en1 := List.set_eq_of_length_le (by rw [g'.len]; omega)
      rw [e2] at h'
      show D.nx (σ.set i (some v)) H'
      rw [e1]
      exact h' _ G' H' g' s'
end
end Mir
namespace Mir
open PySem PySem.Spec PyProof.Rows L2
end Mir
end
section
set_option Elab.async false
set_option linter.all false
set_option maxRecDepth 100000
set_option maxHeartbeats 4000000
namespace Mir
open PySem PySem.Spec PyProof.Rows L2
def fnW (n np : Nat) (m : Wm) (ds : List D) : Rs MO := if ds.length = np then (m (enOf n ds)).calm.bind fun p => .ok p.1 else .stk
end Mir
end
section
set_option Elab.async false
set_option linter.all false
set_option maxRecDepth 100000
set_option maxHeartbeats 4000000
namespace Mir
open PySem PySem.Spec PyProof.Rows L2
abbrev HdT := Value × Nat × (Addr → Value → Option Addr → TS)
def wAll (K : PySem.W.Frag) (Wout : WX) (D : Ends) : List HdT → WX
  | [] => Wout
  | (c, i, ts) :: l => wAs K c i ts (wAll K Wout D l) D
section
variable {K : PySem.W.Frag} {mg : Str → Option Value} {E : XK}
abbrev HdM := List (Str × Bool) × (List (Str × D) → Rs D)
def pickH : List HdM → Str → List (Str × D) → Rs D
  | [], _, _ => .stk
  | (cs, hm) :: r, c, fs => if (c, true) ∈ cs then hm fs else if (c, false) ∈ cs then pickH r c fs else .stk
end
end Mir
end
section
set_option Elab.async false
set_option linter.all false
set_option maxRecDepth 100000
set_option maxHeartbeats 4000000
namespace Mir
open PySem PySem.Spec PyProof.Rows L2
end Mir
end
section
set_option Elab.async false
set_option linter.all false
set_option maxRecDepth 100000
set_option maxHeartbeats 4000000
namespace Mir
open PySem PySem.Spec PyProof.Rows L2
def rowsD : List D → Option (List (List D))
  | [] => some []
  | d :: ds => match seqD d with
    | none => none
    | some es => (rowsD ds).map (es :: ·)
end Mir
end
section
set_option Elab.async false
set_option linter.all false
set_option maxRecDepth 100000
set_option maxHeartbeats 4000000
namespace Mir
open PySem PySem.Spec PyProof.Rows L2
open PySem.W (EachIs)
section
variable {P : Program} {w : World} {A : Around} {E : Value → Shared → Prop} {s : Shared}
structure SetF (P : Program) (w : World) (h : Heap) (a : Addr) (L : List (Addr × List Int)) : Prop where
  ex : ∃ (es : Array (Int × Value)) (ep : Nat) (t : SetTable), (∃ o, h.get? a = some o ∧ o.ExactSet ∧ o.data = .set es ep t) ∧ es.toList = rowsOf P w L ∧ t.fits es.size = true ∧ Ris t.place.toList ∧ (w.params.followText "set-order" = true ∨ t.led = true)
  nd : (L.map (·.2)).Nodup
  tup : ∀ p ∈ L, IsT P w h p.2 p.1
  few : L.length ≤ 64
def Bag (P : Program) (w : World) (h : Heap) (a : Addr) (L : List (Addr × List Int)) : Prop := (∃ es ep t, SetTR P w h a L es ep t) ∨ (L.length = 64 ∧ SetF P w h a L)
theorem SetF.keep {h h' : Heap} {a : Addr} {L : List (Addr × List Int)} (F : SetF P w h a L) (ha : ∀ o, h.get? a = some o → h'.get? a = some o) (ht : ∀ p ∈ L, IsT P w h' p.2 p.1) : SetF P w h' a L := by
  obtain ⟨es, ep, t, ⟨o, ho, r⟩, q⟩ := F.ex
  exact ⟨⟨es, ep, t, ⟨o, ha o ho, r⟩, q⟩, F.nd, ht, F.few⟩
theorem Bag.keep {h h' : Heap} {a : Addr} {L : List (Addr × List Int)} (F : Bag P w h a L) (ha : ∀ o, h.get? a = some o → h'.get? a = some o) (ht : ∀ p ∈ L, IsT P w h' p.2 p.1) : Bag P w h' a L := by
  rcases F with ⟨es, ep, t, R⟩ | ⟨e, F⟩
  · exact .inl ⟨es, ep, t, R.keep ha ht⟩
  · exact .inr ⟨e, F.keep ha ht⟩
end
def natsOf : List D → Option (List Nat)
  | [] => some []
  | .int i :: r => if 0 ≤ i then (natsOf r).map (i.toNat :: ·) else none
  | _ :: _ => none
def keysOf : List D → Option (List (List Nat))
  | [] => some []
  | .tuple xs :: r => match natsOf xs, keysOf r with
    | some k, some ks => some (k :: ks)
    | _, _ => none
  | _ :: _ => none
theorem natsOf_some : ∀ {xs : List D} {k : List Nat}, natsOf xs = some k → xs = k.map iD
  | [], k, h => by cases h; rfl
  | .int i :: r, k, h => by
    unfold natsOf at h
    split at h
    · rename_i hi
      obtain ⟨k', e1, rfl⟩ := Option.map_eq_some_iff.mp h
      rw [natsOf_some e1, List.map_cons]
      congr 1
      show PyData.int i = .int (i.toNat : Int)
      rw [Int.toNat_of_nonneg hi]
    · cases h
  | .none :: _, _, h => by cases h
  | .bool _ :: _, _, h => by cases h
  | .str _ :: _, _, h => by cases h
  | .list _ :: _, _, h => by cases h
  | .tuple _ :: _, _, h => by cases h
  | .dict _ :: _, _, h => by cases h
theorem natsOf_iD : ∀ k : List Nat, natsOf (k.map iD) = some k
  | [] => rfl
  | x :: k => by
    rw [List.map_cons, natsOf, if_pos (by omega), natsOf_iD k]
    rfl
theorem keysOf_some : ∀ {ds : List D} {ks : List (List Nat)}, keysOf ds = some ks → ds = ks.map tupN
  | [], k, h => by cases h; rfl
  | .tuple xs :: r, ks, h => by
    unfold keysOf at h
    split at h
    · rename_i k ks' e1 e2
      cases h
      rw [natsOf_some e1, keysOf_some e2]
      rfl
    · cases h
  | .none :: _, _, h => by cases h
  | .bool _ :: _, _, h => by cases h
  | .str _ :: _, _, h => by cases h
  | .list _ :: _, _, h => by cases h
  | .int _ :: _, _, h => by cases h
  | .dict _ :: _, _, h => by cases h
theorem keysOf_tupN : ∀ ks : List (List Nat), keysOf (ks.map tupN) = some ks
  | [] => rfl
  | x :: ks => by
    rw [List.map_cons]
    show (match natsOf (x.map iD), keysOf (ks.map tupN) with
      | some k, some ks => some (k :: ks)
      | _, _ => none) = _
    rw [natsOf_iD, keysOf_tupN ks]
end Mir
end
section
set_option Elab.async false
set_option linter.all false
set_option maxRecDepth 100000
set_option maxHeartbeats 4000000
namespace Mir
open PySem PySem.Spec PyProof.Rows L2
open PySem.W (EachIs)
theorem vals_ints : ∀ {ns : List Int} {us : List Value}, IntsAre us ns → Vals (ns.map V.int) us
  | _, _, .nil => .nil
  | _, _, .cons n t r => .cons ⟨t, rfl⟩ (vals_ints r)
end Mir
end
section
set_option Elab.async false
set_option linter.all false
set_option maxRecDepth 100000
set_option maxHeartbeats 4000000
namespace Mir
open PySem PySem.Spec PyProof.Rows L2
end Mir
end
section
set_option Elab.async false
set_option linter.all false
set_option maxRecDepth 100000
set_option maxHeartbeats 4000000
namespace Mir
open PySem PySem.Spec PyProof.Rows L2
def rSumT (K : PySem.W.Frag) : List V → Hp → VK → Prop := fun vs H Q => ∃ (a : Addr) (ns : List Int), vs = [V.ref a] ∧ SqT K H a (ns.map V.int) ∧ Q (.int ns.sum) H
theorem cr_sumT {X : Cx} (hc : X.calm = true) : CallR X (.builtin "sum") (rSumT X.K) := by
  intro pins s σ H vs us Q I r h
  obtain ⟨a, ns, rfl, hs, q⟩ := h
  obtain ⟨its, rv, hl, _⟩ := I.tuple hs
  rw [Vals.ref1 r]
  have hi : IntsAre its ns := rv.ints
  obtain ⟨xs, e⟩ := hi.allInts.items
  have hn : numsOf (intItems xs).toList = ns := by rw [← e]; exact hi.numsOf
  rw [nums_intItems] at hn
  have hl : s.heap.IsTuple a (intItems xs) := by rw [← e]; exact hl
  refine PySem.W.ktm_sumG (I.ok.hd hc) hl fun h' tk t' hk => ?_
  rw [preSum_eq, List.take_of_length_le (by simp), hn]
  exact ⟨.int _, H, I.kept hk, ⟨_, rfl⟩, q⟩
section
variable {K : PySem.W.Frag} {mg : Str → Option Value} {G H : Hp}
def fSumT : List D → Rs D
  | [.tuple ds] => match intsOf ds with
    | some ns => .ok (.int ns.sum)
    | none => .stk
  | _ => .stk
theorem o_sumT : ON K (rSumT K) fSumT := by
  refine ⟨fun G H xs ds z gh h1 hf Q q => ?_⟩
  unfold fSumT at hf
  split at hf
  · split at hf
    · rename_i ds ns hn
      cases hf
      obtain ⟨v, rfl, h2⟩ := dpa1 h1
      cases h2 with
      | @tup a ys _ hs ha =>
        have e := intsOf_is hn
        subst e
        have e2 := dpa_ints ha
        subst e2
        exact ⟨a, ns, rfl, seqT_mono gh hs, q _ G H (gf_id gh) (.int _)⟩
    · cases hf
  · cases hf
end
end Mir
end
section
set_option Elab.async false
set_option linter.all false
set_option maxRecDepth 100000
set_option maxHeartbeats 4000000
namespace Mir
open PySem PySem.Spec PyProof.Rows L2
theorem tuple_mul1 (l : Addr) (items : Array Value) (n : Nat) (dd : Option Addr) (sl : Array (Option Value)) (u : Tok) :
    Meets (Builtin.«tuple.__mul__» ⟨[.ref l, .int 1 u], []⟩) (fun _ R s => s.heap.get? l = some { cls := .type "tuple", dict := dd, data := .seq items n, slots := sl } ∧
      R (.ok (.ret (Value.ref l))) s) :=
  .of_wp fun prog w A R s h => by
    obtain ⟨hp, g, d, tk, os⟩ := s
    obtain ⟨hl, h⟩ := h
    have f1 := AutoSeq1.idx_int
    wp_walk using wpAny_loadPart' hl
    repeat (first
      | (refine wpAny_ite_false (decide_eq_false (by decide)) ?_; wp_walk using wpAny_loadPart' hl)
      | (refine wpAny_ite_true (decide_eq_true (by simp)) ?_; wp_walk using wpAny_loadPart' hl))
    exact ⟨_, rfl, h⟩
def rMul1 (K : PySem.W.Frag) : R2 := fun x y H Q => ∃ l xs, x = .ref l ∧ y = .int 1 ∧ SqT K H l xs ∧ Q (.ref l) H
theorem op_mul1 {X : Cx} : OpR X (binaryOp .Mult) (rMul1 X.K) := by
  intro pins s σ H x y v u Q I rx ry h
  obtain ⟨l, xs, rfl, rfl, hT, q⟩ := h
  cases rx
  obtain ⟨t, rfl⟩ := ry
  obtain ⟨its, r, ⟨⟨cls, dd, data, sl⟩, ho, hc, n, hd⟩, hs⟩ := I.tuple hT
  simp only at hc hd
  subst hc hd
  refine wpAny_binaryOp_repeat_ref (T := "tuple") (U := "int") (by decide) ⟨_, ho, rfl⟩ (fun s' => typeIs_int s' 1 t) noFill_tuple_mul F.fills_int_mul F.slot_int_rmul repeat_tuple F.slot_int_index.lookup
    (call_meets F.slot_int_rmul (typeIs_int s 1 t) F.entry_int_rmul (F.args_int_rmul_2 _ _) (int_rmul_tuple 1 t l its.toArray n dd sl)
      ⟨ho, rfl, ⟨_, ho, rfl⟩, call_meets F.slot_tuple_mul ⟨_, ho, rfl⟩ F.entry_tuple_mul (F.args_tuple_mul_2 _ _) (tuple_mul1 l its.toArray n dd sl t) ⟨ho, ?_⟩⟩)
  exact ⟨.ref l, H, I, rfl, q⟩
theorem tuple_mul0 (l : Addr) (items : Array Value) (n : Nat) (dd : Option Addr) (sl : Array (Option Value)) (u : Tok) (hne : (items.isEmpty || (0 : Int) == 1) = false) :
    Meets (Builtin.«tuple.__mul__» ⟨[.ref l, .int 0 u], []⟩) (fun _ R s => s.heap.get? l = some { cls := .type "tuple", dict := dd, data := .seq items n, slots := sl } ∧
      R (.ok (.ret (Value.ref s.heap.objs.size))) { s with heap := s.heap.push { cls := Value.type "tuple", data := Data.seq #[] }, toks := s.toks }) :=
  .of_wp fun prog w A R s h => by
    obtain ⟨hp, g, d, tk, os⟩ := s
    obtain ⟨hl, h⟩ := h
    have f1 := AutoSeq1.idx_int
    wp_walk using wpAny_loadPart' hl
    repeat (first
      | (refine wpAny_ite_false (decide_eq_false (by rw [hne]; exact Bool.false_ne_true)) ?_; wp_walk using wpAny_loadPart' hl)
      | (refine wpAny_ite_false (decide_eq_false (by decide)) ?_; wp_walk using wpAny_loadPart' hl)
      | (refine wpAny_ite_true (decide_eq_true (by simp)) ?_; wp_walk using wpAny_loadPart' hl))
    exact ⟨_, rfl, h⟩
def rMul0 (K : PySem.W.Frag) : R2 := fun x y H Q => ∃ l xs, x = .ref l ∧ y = .int 0 ∧ SqT K H l xs ∧ xs ≠ [] ∧ ∀ p, H p = none → Q (.ref p) (upd H p (.tup []))
theorem op_mul0 {X : Cx} : OpR X (binaryOp .Mult) (rMul0 X.K) := by
  intro pins s σ H x y v u Q I rx ry h
  obtain ⟨l, xs, rfl, rfl, hT, hne, q⟩ := h
  cases rx
  obtain ⟨t, rfl⟩ := ry
  obtain ⟨its, r, ⟨⟨cls, dd, data, sl⟩, ho, hc, n, hd⟩, hs⟩ := I.tuple hT
  simp only at hc hd
  subst hc hd
  have hi : (its.toArray.isEmpty || (0 : Int) == 1) = false := by
    cases its with
    | nil => cases r; exact absurd rfl hne
    | cons a b => rfl
  refine wpAny_binaryOp_repeat_ref (T := "tuple") (U := "int") (by decide) ⟨_, ho, rfl⟩ (fun s' => typeIs_int s' 0 t) noFill_tuple_mul F.fills_int_mul F.slot_int_rmul repeat_tuple F.slot_int_index.lookup
    (call_meets F.slot_int_rmul (typeIs_int s 0 t) F.entry_int_rmul (F.args_int_rmul_2 _ _) (int_rmul_tuple 0 t l its.toArray n dd sl)
      ⟨ho, rfl, ⟨_, ho, rfl⟩, call_meets F.slot_tuple_mul ⟨_, ho, rfl⟩ F.entry_tuple_mul (F.args_tuple_mul_2 _ _) (tuple_mul0 l its.toArray n dd sl t hi) ⟨ho, ?_⟩⟩)
  refine ⟨.ref s.heap.objs.size, _, I.laid (t' := s.toks) (o := .tup []) (fun b ob q => Heap.get?_push_of_some _ q) (Nat.le_refl _) ?_, rfl, q _ (I.hok.fresh (Nat.le_refl _))⟩
  exact ⟨Nat.zero_le _, [], .nil, IsTup.new _ _⟩
def rMulT (K : PySem.W.Frag) : R2 := fun x y H Q => (rMul1 K x y H Q ∨ rMul0 K x y H Q) ∨ rRepT K x y H Q
theorem op_mulT {X : Cx} : OpR X (binaryOp .Mult) (rMulT X.K) := by
  intro pins s σ H x y v u Q I rx ry h
  rcases h with (h | h) | h
  · exact op_mul1 pins s σ H x y v u Q I rx ry h
  · exact op_mul0 pins s σ H x y v u Q I rx ry h
  · exact op_repT pins s σ H x y v u Q I rx ry h
def fMulT : D → D → Rs D
  | .tuple ds, .int k => if k = 1 then .ok (.tuple ds) else if k = 0 ∧ ds ≠ [] then .ok (.tuple []) else if 2 ≤ k ∧ k ≤ 1000 ∧ ds ≠ [] ∧ ds.length ≤ 1000 then .ok (.tuple (List.replicate k.toNat ds).flatten) else .stk
  | _, _ => .stk
theorem o_mulT {K : PySem.W.Frag} : O2 K (rMulT K) fMulT := by
  refine ⟨fun G H x y d e z gh h1 h2 hf Q q => ?_⟩
  unfold fMulT at hf
  split at hf
  · rename_i ds k
    cases h2
    cases h1 with
    | @tup a xs _ hs ha =>
      split at hf
      · rename_i hk
        cases hf
        subst hk
        exact .inl (.inl ⟨a, xs, rfl, rfl, seqT_mono gh hs, q _ G H (gf_id gh) (.tup hs ha)⟩)
      · split at hf
        · rename_i hk
          cases hf
          obtain ⟨rfl, hne⟩ := hk
          refine .inl (.inr ⟨a, xs, rfl, rfl, seqT_mono gh hs, fun e => hne ((dpa_nil ha).mp e), fun p hp => ?_⟩)
          have f := gf0_newG (o := .tup []) gh hp
          exact q (.ref p) _ _ f (.tup (.inl (.inl upd_same)) .nil)
        split at hf
        · rename_i hk
          cases hf
          obtain ⟨k1, k2, k3, k4⟩ := hk
          refine .inr ⟨a, k, xs, rfl, rfl, seqT_mono gh hs, fun e => k3 ((dpa_nil ha).mp e), k1, k2, by rw [dpa_len ha]; exact k4, fun p hp => ?_⟩
          have f := gf0_newG (o := .tup (List.replicate k.toNat xs).flatten) gh hp
          exact q (.ref p) _ _ f (.tup (.inl (.inl upd_same)) (dpa_mono f.g0 _ _ (dpa_rep ha _)))
        · cases hf
  · cases hf
end Mir
end
section
set_option Elab.async false
set_option linter.all false
set_option maxRecDepth 100000
set_option maxHeartbeats 4000000
namespace Mir
open PySem PySem.Spec PyProof.Rows L2
def getT : List (List Int × D) → List Int → Option D
  | [], _ => none
  | (k, d) :: r, i => if k = i then some d else getT r i
end Mir
end
section
set_option Elab.async false
set_option linter.all false
set_option maxRecDepth 100000
set_option maxHeartbeats 4000000
namespace Mir
open PySem PySem.Spec PyProof.Rows L2
open PySem.W (EachIs)
mutual
/-- ints, and tuples of such -/
def numK : NestedKey → Bool
  | .num _ => true
  | .tup ks => numKs ks
  | .none => false
  | .text _ => false
def numKs : List NestedKey → Bool
  | [] => true
  | k :: ks => numK k && numKs ks
end
section
variable {P : Program} {w : World} {A : Around} {E : Value → Shared → Prop} {s : Shared}
def HashV (P : Program) (w : World) (n : Nat) (s : Shared) (v : Value) : Prop := ∀ (A : Around) (E : Value → Shared → Prop) (Q : Bool → Shared → Prop), Q true s → wpAny (model P w) A (hashByValue n v) Q E s
def NoCls (P : Program) (w : World) (n : Nat) (s : Shared) (v : Value) : Prop := ∀ (A : Around) (E : Value → Shared → Prop) (Q : Bool → Shared → Prop), Q false s → wpAny (model P w) A (ofAClassStatement n v) Q E s
theorem HashV.plain {n : Nat} {v : Value} (h : hashByValue n v = pure true) : HashV P w n s v := fun A E Q q => by
  rw [h]; exact wpAny_pure q
theorem NoCls.plain {n : Nat} {v : Value} (h : ofAClassStatement n v = pure false) : NoCls P w n s v := fun A E Q q => by
  rw [h]; exact wpAny_pure q
theorem HashV.tup {n : Nat} {a : Addr} {o : Obj} {vs : Array Value} {m : Nat} (ho : s.heap.get? a = some o) (hc : o.cls = .type "tuple") (hd : o.data = .seq vs m) (hq : ∀ v ∈ vs.toList, HashV P w n s v) : HashV P w (n + 1) s (.ref a) := fun A E Q h => by
  have ty : s.TypeIs (.ref a) "tuple" := ⟨o, ho, hc⟩
  unfold hashByValue
  refine wpAny_bind (wpAny_specialOf ty F.slot_tuple_hash.lookup ?_); show wpAny _ _ (seqItems? (.ref a) >>= _) _ _ s
  refine wpAny_bind (wpAny_seqItems ho hd (wpAny_bind ?_)); show wpAny _ _ (forIn vs _ _) _ _ s
  rw [← Array.forIn_toList]
  refine wpAny_forIn_list _ (fun rest r s' => r.1 = none ∧ s' = s ∧ ∀ v ∈ rest, HashV P w n s v) _ (fun v rest r s' z => ?_) (fun r s' z => ?_) _ _ ⟨rfl, rfl, hq⟩
  · obtain ⟨_, rfl, al⟩ := z
    refine wpAny_bind (al v List.mem_cons_self _ _ _ ?_); simp only [Bool.not_true, Bool.false_eq_true, if_false]
    exact wpAny_pure ⟨rfl, rfl, fun u hu => al u (List.mem_cons_of_mem _ hu)⟩
  · obtain ⟨r1, r2⟩ := r
    obtain ⟨z1, rfl, _⟩ := z
    simp only at z1; subst z1
    exact wpAny_pure h
theorem NoCls.tup {n : Nat} {a : Addr} {o : Obj} {vs : Array Value} {m : Nat} (ho : s.heap.get? a = some o) (hc : o.cls = .type "tuple") (hd : o.data = .seq vs m) (hq : ∀ v ∈ vs.toList, NoCls P w n s v) : NoCls P w (n + 1) s (.ref a) := fun A E Q h => by
  have ty : s.TypeIs (.ref a) "tuple" := ⟨o, ho, hc⟩
  have e : (("tuple" : String) == "tuple") = true := by decide
  unfold ofAClassStatement
  refine wpAny_bind (wpAny_typeOf ty ?_)
  dsimp only
  simp only [e, if_true, Bool.not_true, Bool.false_eq_true, if_false]
  try refine wpAny_bind (wpAny_pure ?_)
  try simp only [Bool.not_true, Bool.false_eq_true, if_false]
  show wpAny _ _ (seqItems? (.ref a) >>= _) _ _ s
  refine wpAny_bind (wpAny_seqItems ho hd ?_); dsimp only
  refine wpAny_bind ?_; show wpAny _ _ (forIn vs _ _) _ _ s
  rw [← Array.forIn_toList]
  refine wpAny_forIn_list _ (fun rest r s' => r.1 = none ∧ s' = s ∧ ∀ v ∈ rest, NoCls P w n s v) _ (fun v rest r s' z => ?_) (fun r s' z => ?_) _ _ ⟨rfl, rfl, hq⟩
  · obtain ⟨_, rfl, al⟩ := z
    refine wpAny_bind (al v List.mem_cons_self _ _ _ ?_); simp only [Bool.false_eq_true, if_false]
    exact wpAny_pure ⟨rfl, rfl, fun u hu => al u (List.mem_cons_of_mem _ hu)⟩
  · obtain ⟨r1, r2⟩ := r
    obtain ⟨z1, rfl, _⟩ := z
    simp only at z1; subst z1
    exact wpAny_pure h
/-- the tuple at b is the key k -/
structure KeyAt (h : Heap) (k : NestedKey) (b : Addr) : Prop where
  is : NestedIs h k (.ref b)
  dp : k.depth ≤ 8
  nm : numK k = true
theorem KeyAt.keep {h h' : Heap} {k : NestedKey} {b : Addr} (x : KeyAt h k b) (hk : ∀ c o, h.get? c = some o → h'.get? c = some o) : KeyAt h' k b := ⟨NestedIs.at (fun a o _ _ e _ => hk a o e) _ _ x.is, x.dp, x.nm⟩
abbrev AK := Addr × NestedKey
def rowsK (w : World) (L : List AK) : List (Int × Value) := L.map fun p => (p.2.hash w, Value.ref p.1)
def hsK (w : World) (L : List AK) : List Int := L.map fun p => p.2.hash w
structure KSet (w : World) (h : Heap) (a : Addr) (L : List AK) (es : Array (Int × Value)) (ep : Nat) (t : SetTable) : Prop where
  ob : ∃ o, h.get? a = some o ∧ o.ExactSet ∧ o.data = .set es ep t
  rows : es.toList = rowsK w L
  tab : TabOk t (hsK w L)
  nd : (L.map (·.2)).Nodup
  key : ∀ p ∈ L, KeyAt h p.2 p.1
  plain : t.plain = true
  led : w.params.followText "set-order" = true ∨ t.led = true
  room : L.length * 5 < t.mask * 3
  few : L.length < 64
variable {a : Addr} {L : List AK} {es : Array (Int × Value)} {ep : Nat} {t : SetTable}
theorem rowsK_size (h : es.toList = rowsK w L) : es.size = L.length := by
  have := congrArg List.length h
  rw [Array.length_toList, rowsK, List.length_map] at this
  exact this
theorem KSet.len (R : KSet w s.heap a L es ep t) : t.place.size = L.length := by
  have := R.tab.sz
  rw [hsK, List.length_map] at this
  exact this
theorem fits_of (h1 : t.place.size = es.size) (h2 : t.dummies = #[]) (h3 : es.size ≤ t.mask) : t.fits es.size = true := by
  unfold SetTable.fits SetTable.fill
  rw [h2, Bool.and_eq_true, beq_iff_eq, decide_eq_true_eq]
  exact ⟨h1, by show t.place.size + 0 ≤ t.mask; omega⟩
theorem KSet.fits (R : KSet w s.heap a L es ep t) : t.fits es.size = true := by
  have h1 := R.len
  have h2 := rowsK_size R.rows
  have h3 := R.room
  exact fits_of (h1.trans h2.symm) R.tab.dm (by omega)
/-- the place where the search stands -/
abbrev stop (t : SetTable) (h : Int) (c : Nat) : SetTable.Probe := nth t.mask (runAt t.mask (SetTable.bits h % (t.mask + 1)) (SetTable.bits h)) c
theorem KSet.keep {h h' : Heap} (R : KSet w h a L es ep t) (ha : ∀ o, h.get? a = some o → h'.get? a = some o) (ht : ∀ p ∈ L, KeyAt h' p.2 p.1) : KSet w h' a L es ep t := by
  obtain ⟨o, ho, r⟩ := R.ob
  exact ⟨⟨o, ha o ho, r⟩, R.rows, R.tab, R.nd, ht, R.plain, R.led, R.room, R.few⟩
end
end Mir
end
section
set_option Elab.async false
set_option linter.all false
set_option maxRecDepth 100000
set_option maxHeartbeats 4000000
namespace Mir
open PySem PySem.Spec PyProof.Rows L2
open PySem.W (EachIs)
theorem plainAll_tupN : ∀ xs : Vw, PyData.plainAll (xs.map tupN) = true
  | [] => rfl
  | x :: xs => by rw [List.map_cons, PyData.plainAll, plainAll_tupN xs, plain_tupN]; rfl
@[simp] theorem plain_FD (xs : Vw) : (FD xs).plain = true := by unfold FD; rw [PyData.plain, plainAll_tupN]
theorem nums_inj : ∀ {a b : List Nat}, a.map (fun n : Nat => NestedKey.num (n : Int)) = b.map (fun n : Nat => NestedKey.num (n : Int)) → a = b
  | [], [], _ => rfl
  | [], _ :: _, h => by cases h
  | _ :: _, [], h => by cases h
  | x :: a, y :: b, h => by
    rw [List.map_cons, List.map_cons] at h
    injection h with h1 h2
    injection h1 with h1
    rw [nums_inj h2, show x = y by omega]
theorem nkN_inj {a b : List Nat} (h : nkN a = nkN b) : a = b := by
  unfold nkN at h
  injection h with h
  exact nums_inj h
theorem nkNs_inj : ∀ {a b : Vw}, a.map nkN = b.map nkN → a = b
  | [], [], _ => rfl
  | [], _ :: _, h => by cases h
  | _ :: _, [], h => by cases h
  | x :: a, y :: b, h => by
    rw [List.map_cons, List.map_cons] at h
    injection h with h1 h2
    rw [nkNs_inj h2, nkN_inj h1]
theorem nkV_inj {a b : Vw} (h : nkV a = nkV b) : a = b := by
  unfold nkV at h
  injection h with h
  exact nkNs_inj h
theorem numKs_n : ∀ k : List Nat, numKs (k.map fun n : Nat => NestedKey.num (n : Int)) = true
  | [] => by simp [numKs]
  | x :: k => by rw [List.map_cons, numKs, numKs_n k]; simp [numK]
theorem numKs_v : ∀ v : Vw, numKs (v.map nkN) = true
  | [] => by simp [numKs]
  | x :: v => by rw [List.map_cons, numKs, numKs_v v]; unfold nkN; rw [numK, numKs_n]; rfl
theorem depth_n : ∀ k : List Nat, NestedKey.depthAll (k.map fun n : Nat => NestedKey.num (n : Int)) = 0
  | [] => by simp [NestedKey.depthAll]
  | x :: k => by rw [List.map_cons, NestedKey.depthAll, depth_n k]; simp [NestedKey.depth]
theorem depth_v : ∀ v : Vw, NestedKey.depthAll (v.map nkN) ≤ 1
  | [] => by simp [NestedKey.depthAll]
  | x :: v => by
    have := depth_v v
    rw [List.map_cons, NestedKey.depthAll]
    unfold nkN at *
    rw [NestedKey.depth, depth_n]
    omega
section
variable {P : Program} {w : World} {A : Around} {E : Value → Shared → Prop} {s : Shared}
theorem nested_n {h : Heap} : ∀ {k : List Nat} {vs : List Value} {as : List Addr}, ReadsAll h vs (k.map iD) as → NestedAll h (k.map fun n : Nat => NestedKey.num (n : Int)) vs
  | [], _, _, r => by cases r; exact .nil
  | n :: k, _, _, r => by
    cases r with
    | cons a b =>
      cases a
      exact .cons (.int _ _) (nested_n b)
theorem nested_N {h : Heap} {k : List Nat} {v : Value} {as : List Addr} (r : Reads h v (tupN k) as) : NestedIs h (nkN k) v := by
  unfold tupN at r
  cases r with
  | tuple h1 h2 h3 h4 => exact .tup h1 h2 h3 (nested_n h4)
theorem nested_Ns {h : Heap} : ∀ {x : Vw} {vs : List Value} {as : List Addr}, ReadsAll h vs (x.map tupN) as → NestedAll h (x.map nkN) vs
  | [], _, _, r => by cases r; exact .nil
  | n :: k, _, _, r => by
    cases r with
    | cons a b => exact .cons (nested_N a) (nested_Ns b)
theorem nested_V {h : Heap} {x : Vw} {v : Value} {as : List Addr} (r : Reads h v (FD x) as) : NestedIs h (nkV x) v := by
  unfold FD at r
  cases r with
  | tuple h1 h2 h3 h4 => exact .tup h1 h2 h3 (nested_Ns h4)
theorem keyAt_V {h : Heap} {x : Vw} {b : Addr} {as : List Addr} (r : Reads h (.ref b) (FD x) as) : KeyAt h (nkV x) b := by
  refine ⟨nested_V r, ?_, ?_⟩
  · have := depth_v x
    unfold nkV
    rw [NestedKey.depth]; omega
  · unfold nkV
    rw [numK, numKs_v]
end
def viewOf : D → Option Vw
  | .tuple xs => keysOf xs
  | _ => none
theorem viewOf_some {d : D} {v : Vw} (h : viewOf d = some v) : d = FD v := by
  unfold viewOf at h
  split at h
  · rw [keysOf_some h]; rfl
  · cases h
theorem viewOf_FD (v : Vw) : viewOf (FD v) = some v := keysOf_tupN v
end Mir
end
section
set_option Elab.async false
set_option linter.all false
set_option maxRecDepth 100000
set_option maxHeartbeats 4000000
namespace Mir
open PySem PySem.Spec PyProof.Rows L2
def getI : List (Int × D) → Int → Option D
  | [], _ => none
  | (k, d) :: r, i => if k = i then some d else getI r i
section
variable {K : PySem.W.Frag} {G : Hp}
/-- no key twice -/
def KeyNd : List (Int × D) → Prop
  | [] => True
  | (k, _) :: r => getI r k = none ∧ KeyNd r
end
instance keyNd_dec : (kvs : List (Int × D)) → Decidable (KeyNd kvs)
  | [] => Decidable.isTrue trivial
  | (k, d) :: r => match h : getI r k, keyNd_dec r with
    | none, Decidable.isTrue h2 => Decidable.isTrue ⟨h, h2⟩
    | some e, _ => Decidable.isFalse fun z => by
      have := z.1
      rw [h] at this; cases this
    | none, Decidable.isFalse h2 => Decidable.isFalse fun z => h2 z.2
end Mir
end
section
set_option Elab.async false
set_option linter.all false
set_option maxRecDepth 100000
set_option maxHeartbeats 4000000
namespace Mir
open PySem PySem.Spec PyProof.Rows L2
end Mir
end
section
set_option Elab.async false
set_option linter.all false
set_option maxRecDepth 100000
set_option maxHeartbeats 4000000
namespace Mir
open PySem PySem.Spec PyProof.Rows L2
mutual
theorem hash_of (w : World) : ∀ k : List Nat, NestedKey.hashes w (k.map fun n : Nat => NestedKey.num (n : Int)) = k.map fun n : Nat => hashInt (n : Int)
  | [] => rfl
  | n :: k => by rw [List.map_cons, NestedKey.hashes, hash_of w k]; rfl
end
theorem hash_ofs (w : World) : ∀ v : Vw, NestedKey.hashes w (v.map nkN) = v.map fun k => reduceHash (Builtin.Tuple.tupleHashOf (k.map fun n : Nat => hashInt (n : Int)))
  | [] => rfl
  | k :: v => by
    rw [List.map_cons, NestedKey.hashes, hash_ofs w v, List.map_cons]
    unfold nkN
    rw [NestedKey.hash, hash_of]
theorem hash_nkV (w : World) (v : Vw) : (nkV v).hash w = hV v := by
  unfold nkV hV
  rw [NestedKey.hash, hash_ofs]
def viewKind (P : Program) (w : World) : HeapKind P w Vw where
  is := fun h v a => (nestedKind P w).is h (nkV v) a
  hash := hV
  draws := fun v => (nestedKind P w).draws (nkV v)
  room := (nestedKind P w).room
  inj := fun hx hy => nkV_inj ((nestedKind P w).inj hx hy)
  keeps := fun hk ho hd hs => (nestedKind P w).keeps hk ho hd hs
  pyHash := fun {A E s k a Q} hu hk h => (nestedKind P w).pyHash hu hk (by
    show Q ((nkV k).hash w) _
    rw [hash_nkV]; exact h)
  eqBool := fun {A E s x y a b Q} hu hx hy h => (nestedKind P w).eqBool hu hx hy (by
    have e : decide (nkV x = nkV y) = decide (x = y) := decide_eq_decide.mpr ⟨nkV_inj, fun e => by rw [e]⟩
    rw [e]; exact h)
  quiet := fun hk h => (nestedKind P w).quiet hk h
def getV : List (Vw × D) → Vw → Option D
  | [], _ => none
  | (k, d) :: r, i => if k = i then some d else getV r i
def putV : List (Vw × D) → Vw → D → List (Vw × D)
  | [], i, d => [(i, d)]
  | (k, e) :: r, i, d => if k = i then (k, d) :: r else (k, e) :: putV r i d
theorem getV_put : ∀ {kvs : List (Vw × D)} {i j : Vw} {d : D}, getV (putV kvs i d) j = if i = j then some d else getV kvs j
  | [], i, j, d => rfl
  | (k, e) :: r, i, j, d => by
    unfold putV
    by_cases q : k = i
    · subst q
      rw [if_pos rfl]
      unfold getV
      by_cases q2 : k = j
      · rw [if_pos q2, if_pos q2]
      · rw [if_neg q2, if_neg q2, if_neg q2]
    · rw [if_neg q]
      unfold getV
      by_cases q2 : k = j
      · rw [if_pos q2, if_pos q2, if_neg (fun z => q (q2.trans z.symm))]
      · rw [if_neg q2, if_neg q2]
        exact getV_put
theorem getV_none : ∀ {kvs : List (Vw × D)} {i : Vw} {d : D}, getV kvs i = none → putV kvs i d = kvs ++ [(i, d)]
  | [], _, _, _ => rfl
  | (k, e) :: r, i, d, h => by
    unfold getV at h
    unfold putV
    split at h
    · cases h
    · rename_i q
      rw [if_neg q, getV_none h]; rfl
section
variable {K : PySem.W.Frag} {G : Hp}
theorem atV_cons {x : XV} {xs : List XV} {k : Vw} : atKey (x :: xs) k = if x.1 = k then some x.2 else atKey xs k := by
  unfold atKey
  rw [List.find?_cons]
  by_cases q : x.1 = k
  · rw [if_pos q, decide_eq_true q]; rfl
  · rw [if_neg q, decide_eq_false q]
theorem tvv_get : ∀ {vs : List XV} {kvs : List (Vw × D)} (i : Vw), TvV K G vs kvs → match getV kvs i with
    | some d => ∃ a val v, atKey vs i = some (a, val) ∧ RelV v val ∧ Dp K G v d
    | none => atKey vs i = none
  | _, _, i, .nil => rfl
  | (k, a, val) :: vs, (j, d) :: kvs, i, .cons h t => by
    obtain ⟨e, sq, v, rv, dv⟩ := h
    have e : k = j := e
    subst e
    unfold getV
    rw [atV_cons]
    by_cases q : k = i
    · subst q
      rw [if_pos rfl, if_pos rfl]
      exact ⟨a, val, v, rfl, rv, dv⟩
    · rw [if_neg q, if_neg q]
      exact tvv_get i t
theorem tvv_some {vs : List XV} {kvs : List (Vw × D)} (i : Vw) (h : TvV K G vs kvs) : (atKey vs i).isSome = (getV kvs i).isSome := by
  have q := tvv_get i h
  cases e : getV kvs i with
  | none => rw [e] at q; rw [q]; rfl
  | some d =>
    rw [e] at q
    obtain ⟨a, val, v, h1, _⟩ := q
    rw [h1]; rfl
theorem tvv_map : ∀ {vs : List XV} {kvs : List (Vw × D)} {i : Vw} {v : V} {val : Value} {d : D}, TvV K G vs kvs → RelV v val → Dp K G v d → (vs.map (·.1)).Nodup → (getV kvs i).isSome = true → TvV K G (vs.map (putAt i val)) (putV kvs i d)
  | _, _, _, _, _, _, .nil, _, _, _, h => by cases h
  | (k, a, u) :: vs, (j, e) :: kvs, i, v, val, d, .cons h t, rv, hv, nd, hs => by
    obtain ⟨ek, sq, w, rw', dw⟩ := h
    have ek : k = j := ek
    subst ek
    rw [List.map_cons, List.nodup_cons] at nd
    unfold putV
    unfold getV at hs
    rw [List.map_cons]
    by_cases q : k = i
    · subst q
      rw [if_pos rfl]
      have e1 : putAt k val (k, a, u) = (k, a, val) := by unfold putAt; rw [if_pos rfl]
      have e2 : vs.map (putAt k val) = vs := by
        refine (List.map_congr_left fun p hp => ?_).trans (List.map_id _)
        unfold putAt
        rw [if_neg]; rfl
        intro z
        exact nd.1 (List.mem_map.mpr ⟨p, hp, z⟩)
      rw [e1, e2]
      exact .cons ⟨rfl, sq, v, rv, hv⟩ t
    · rw [if_neg q] at hs ⊢
      have e1 : putAt i val (k, a, u) = (k, a, u) := by unfold putAt; rw [if_neg q]
      rw [e1]
      exact .cons ⟨rfl, sq, w, rw', dw⟩ (tvv_map t rv hv nd.2 hs)
theorem tvv_put {vs : List XV} {kvs : List (Vw × D)} {i : Vw} {a : Addr} {v : V} {val : Value} {d : D} (h : TvV K G vs kvs) (sq : Dp K G (.ref a) (vwD i)) (rv : RelV v val) (hv : Dp K G v d) (nd : (vs.map (·.1)).Nodup) : TvV K G (storedH vs i a val) (putV kvs i d) := by
  unfold storedH
  rw [tvv_some i h]
  cases q : getV kvs i with
  | some e => exact tvv_map h rv hv nd (by rw [q]; rfl)
  | none =>
    rw [getV_none q]
    exact Paired.snoc h ⟨rfl, sq, v, rv, hv⟩
theorem tvv_keys : ∀ {vs : List XV} {kvs : List (Vw × D)}, TvV K G vs kvs → ∀ x ∈ vs, Dp K G (.ref x.2.1) (vwD x.1)
  | _, _, .nil, x, hx => nomatch hx
  | y :: vs, q :: kvs, .cons h t, x, hx => by
    rcases List.mem_cons.mp hx with e | hx
    · subst e
      exact h.2.1
    · exact tvv_keys t x hx
theorem tvv_len {vs : List XV} {kvs : List (Vw × D)} (h : TvV K G vs kvs) : vs.length = kvs.length := Paired.length h
theorem stored_nd {xs : List XV} {k : Vw} {a : Addr} {v : Value} (nd : (xs.map (·.1)).Nodup) : ((storedH xs k a v).map (·.1)).Nodup := by
  unfold storedH
  split
  · have : (xs.map (putAt k v)).map (·.1) = xs.map (·.1) := by
      rw [List.map_map]
      refine List.map_congr_left fun x _ => ?_
      show (putAt k v x).1 = x.1
      unfold putAt
      split <;> rfl
    rw [this]; exact nd
  · rename_i h
    rw [List.map_append, List.map_cons, List.map_nil]
    refine List.nodup_append.mpr ⟨nd, by simp, fun x hx y hy e => ?_⟩
    rw [List.mem_singleton.mp hy] at e
    obtain ⟨p, hp, e2⟩ := List.mem_map.mp hx
    refine h ?_
    unfold atKey
    rw [Option.isSome_map, List.find?_isSome]
    exact ⟨p, hp, by simp [e2, e]⟩
end
section
variable {X : Cx} {pins : List (Addr × Obj)} {σ : L2.St} {H : Hp} {s : Shared} {a : Addr} {xs : List XV} {A : Around} {E : Value → Shared → Prop}
theorem view_is (I : Inv X pins σ H s) {b : Addr} {k : Vw} (h : Dp X.K H (.ref b) (vwD k)) : (viewKind X.prog X.w).is s.heap k b := by
  obtain ⟨as, r⟩ := Dp.reads I _ _ (.ref b) h rfl (plain_FD k)
  have q := keyAt_V (x := k) r
  exact ⟨q.is, q.dp⟩
theorem dv_rdT (I : Inv X pins σ H s) (e : H a = some (DVO a xs)) (hk : ∀ x ∈ xs, Dp X.K H (.ref x.2.1) (vwD x.1)) :
    xs.length ≤ sizeLine ∧ (a == sysModules) = false ∧ (xs.map (·.1)).Nodup ∧ s.heap.DictOfH (viewKind X.prog X.w) a xs := by
  obtain ⟨⟨h1, h2, o, es, ep, h3, h4, h5, h6, h7⟩, _, _⟩ := (show ObjOk X.prog X.w H s.heap a (DVO a xs) from I.hok a _ e)
  exact ⟨h2, h1, h7, o, es, ep, h3, h4, h5, h6, fun x hx => view_is I (hk x hx), h7⟩
theorem dv_okT {P : Program} {w : World} {H' : Hp} {h' : Heap} (z : xs.length ≤ sizeLine) (hd : (a == sysModules) = false) (dd : h'.DictOfH (viewKind P w) a xs) : ObjOk P w H' h' a (DVO a xs) := by
  obtain ⟨o, es, ep, h3, h4, h5, h6, _, h7⟩ := dd
  refine ⟨⟨hd, z, o, es, ep, h3, h4, h5, h6, h7⟩, ⟨o, h3⟩, ?_⟩
  rintro g1 g2 ⟨k1, k2, o', es', ep', k3, k4⟩ hh
  exact ⟨k1, k2, o', es', ep', hh _ k3, k4⟩
end
/-- the value is the view k -/
def IsVw (K : PySem.W.Frag) (H : Hp) (y : V) (k : Vw) : Prop := ∃ b, y = .ref b ∧ Dp K H (.ref b) (vwD k)
def KeysV (K : PySem.W.Frag) (H : Hp) (xs : List XV) : Prop := ∀ x ∈ xs, Dp K H (.ref x.2.1) (vwD x.1)
def tVGet (K : PySem.W.Frag) (td ty : TE) : TE := fun σ H Q => td σ H fun x H1 => ty σ H1 fun y H2 => ∃ a xs k q v, x = .ref a ∧ H2 a = some (DVO a xs) ∧ KeysV K H2 xs ∧ IsVw K H2 y k ∧ atKey xs k = some q ∧ RelV v q.2 ∧ Q v H2
def tVGet2 (K : PySem.W.Frag) (td ty tx : TE) : TE := fun σ H Q => td σ H fun x H1 => (∃ a xs, x = .ref a ∧ H1 a = some (DVO a xs)) ∧ ty σ H1 fun y H2 => tx σ H2 fun z H3 => ∃ a xs k, x = .ref a ∧ H3 a = some (DVO a xs) ∧ KeysV K H3 xs ∧ IsVw K H3 y k ∧
  match atKey xs k with
  | some q => ∃ v, RelV v q.2 ∧ Q v H3
  | none => Q z H3
def sVPut (K : PySem.W.Frag) (td ty tv : TE) : TS := fun D σ H => tv σ H fun v H1 => td σ H1 fun x H2 => ty σ H2 fun y H3 => ∃ a xs k c, x = .ref a ∧ H3 a = some (DVO a xs) ∧ KeysV K H3 xs ∧ y = .ref c ∧ Dp K H3 (.ref c) (vwD k) ∧ xs.length < sizeLine ∧
  ((xs.map (·.1)).Nodup → ∀ val, RelV v val → D.nx σ (upd H3 a (DVO a (storedH xs k c val))))
/-- {} -/
def tVNew : TE := fun _ H Q => ∀ p, H p = none → Q (.ref p) (upd H p (DVO p []))
section
variable {X : Cx} {pos pos' apos cpos : Pos} {o i e f value : Expr} {td ty tx tv : TE}
theorem roomV (hu : X.A.units + 65 < cLine) : (viewKind X.prog X.w).room X.A.in1 := by
  show X.A.in1.units + 8 < cLine
  rw [Around.in1_units]; omega
theorem pe_vnew {p : Pos} : PE X (.Dict [] [] p) tVNew := by
  refine ⟨fun pins s σ H Q I q => ?_⟩
  have hn := I.hok.fresh (Nat.le_refl s.heap.objs.size)
  have d0 : (s.heap.push { cls := .type "dict", data := .dict #[] }).DictOfH (viewKind X.prog X.w) s.heap.objs.size [] := Heap.DictOfH.new s.heap
  have hb : (s.heap.objs.size == sysModules) = false := beq_eq_false_iff_ne.mpr (Ne.symm (Nat.ne_of_lt I.big))
  have I1 := I.laid (a := s.heap.objs.size) (o := DVO s.heap.objs.size []) (h' := s.heap.push { cls := .type "dict", data := .dict #[] }) (t' := s.toks) (fun _ _ q => Heap.get?_push_of_some _ q) (Nat.le_refl _) (dv_okT (Nat.zero_le _) hb d0)
  exact wpAny_Dict_empty ⟨.ref s.heap.objs.size, _, I1, rfl, q _ hn⟩
theorem pe_vget (hu : X.A.units + 65 < cLine) (ho : PE X o td) (hi : PE X i ty) (hs : NoSl i) : PE X (.Subscript o i pos) (tVGet X.K td ty) := by
  refine ⟨fun pins s σ H Q I h => ?_⟩
  refine subD_of PySem.F.slot_dict_getitem.lookup hs (thn (ho.run pins s σ H _ I h) fun u s1 ⟨x, H1, I1, rx, q1⟩ => thn (hi.run pins s1 σ H1 _ I1 q1) fun iv s2 ⟨y, H2, I2, ry, a, xs, k, q, v, ex, e, hk, ⟨b, ey, dk⟩, hq, rv, q2⟩ => ?_)
  subst ex ey
  obtain rfl : u = Value.ref a := rx
  obtain rfl : iv = Value.ref b := ry
  obtain ⟨z, hd, nd, dd⟩ := dv_rdT I2 e hk
  exact ⟨dd.typeIs, wpAny_getItem_heap (roomV hu) (view_is I2 dk) dd hq ⟨v, H2, I2.tok _, rv, q2⟩⟩
theorem pe_vget2 (hu : X.A.units + 65 < cLine) (ho : PE X o td) (he : PE X e ty) (hf : PE X f tx) (m : M2 X o "get" apos e f cpos) : PE X (.Call (.Attribute o "get" apos) [e, f] [] cpos) (tVGet2 X.K td ty tx) := by
  refine ⟨fun pins s σ H Q I h => ?_⟩
  refine wpAny_Call_method m.base m.few m.line PySem.F.plainAttrs_dict PySem.F.slot_dict_get PySem.F.type_dict_get (thn (ho.run pins s σ H _ I h) fun u s1 ⟨x, H1, I1, rx, ⟨a, xs, ex, d⟩, q1⟩ => ?_)
  subst ex
  obtain rfl : u = Value.ref a := rx
  obtain ⟨⟨h1, h2, ob, es, ep, h3, h4, h5, h6, h7⟩, _, _⟩ := (show ObjOk X.prog X.w H1 s1.heap a (DVO a xs) from I1.hok a _ d)
  refine ⟨⟨ob, h3, h4.1⟩, fun b q => by cases q; exact ⟨ob, h3, h4.2.1⟩, ?_⟩
  rw [m.trees]
  refine Calls.callWith_builtin rfl (Calls.evalArgs_plain (Calls.spliced_cons (thn (he.run pins s1 σ H1 _ I1 q1) fun iv s2 ⟨y, H2, I2, ry, q2⟩ =>
    Calls.spliced_cons (thn (hf.run pins s2 σ H2 _ I2 q2) fun fv s3 ⟨z, H3, I3, rz, a', xs', k, ea, e, hk, ⟨b, ey, dk⟩, q3⟩ => Calls.spliced_nil ?_))))
  cases ea
  subst ey
  obtain rfl : iv = Value.ref b := ry
  obtain ⟨_, hd, nd, dd⟩ := dv_rdT I3 e hk
  refine call_meetsIn PySem.F.slot_dict_get dd.typeIs PySem.F.entry_dict_get (PySem.F.args_dict_get_3 _ _ _) (meetsH_dict_get_default (viewKind X.prog X.w) a b hd fv) ⟨roomV hu, k, xs', view_is I3 dk, dd, ?_⟩
  cases eq : atKey xs' k with
  | none => rw [eq] at q3; exact ⟨z, H3, I3.tok _, rz, q3⟩
  | some q =>
    rw [eq] at q3
    obtain ⟨v, rv, q3⟩ := q3
    exact ⟨v, H3, I3.tok _, rv, q3⟩
theorem storedV_len (xs : List XV) (k : Vw) (a : Addr) (v : Value) : (storedH xs k a v).length ≤ xs.length + 1 := by
  unfold storedH
  split
  · rw [List.length_map]; omega
  · rw [List.length_append, List.length_cons, List.length_nil]; omega
theorem ps_vput (hu : X.A.units + 65 < cLine) (ho : PE X o td) (hi : PE X i ty) (hv : PE X value tv) (hs : swapsWith value (some (.Subscript o i pos')) pos.line X.env = pure false) :
    PS X (.Assign [.Subscript o i pos'] value pos) (sVPut X.K td ty tv) := by
  refine ⟨fun pins s σ H D I h => ?_⟩
  refine wpAny_Assign_Subscript (thn (hv.run pins s σ H _ I h) fun r s1 ⟨v, H1, I1, rv, q1⟩ => thn (ho.run pins s1 σ H1 _ I1 q1) fun u s2 ⟨x, H2, I2, rx, q2⟩ => thn (hi.run pins s2 σ H2 _ I2 q2) fun iv s3 ⟨y, H3, I3, ry, a, xs, k, b, ex, e, hk, ey, dk, hl, q3⟩ => ?_) hs
  subst ex ey
  obtain rfl : u = Value.ref a := rx
  obtain rfl : iv = Value.ref b := ry
  obtain ⟨z, hd, nd, dd⟩ := dv_rdT I3 e hk
  refine wpAny_setItem_heap (hsz := z) (roomV hu) (view_is I3 dk) dd fun h' dd' hs' => ⟨σ, _, ?_, q3 nd r rv⟩
  have he : ∃ q, h'.get? a = some q := let ⟨q, _, _, hq, _⟩ := dd'; ⟨q, hq⟩
  have hl2 := storedV_len xs k b r
  exact d_write I3 (by rw [e]; exact True.intro) hs' he (dv_okT (by omega) hd dd')
end
def dvAt (en : En) (i : Nat) : Option (List (Vw × D)) := match en[i]? with
  | some (.own (.dv kvs)) => some kvs
  | _ => none
theorem dvAt_some {en : En} {i : Nat} {kvs : List (Vw × D)} (h : dvAt en i = some kvs) : en[i]? = some (.own (.dv kvs)) := by
  unfold dvAt at h
  split at h
  · cases h; assumption
  · cases h
section
variable {K : PySem.W.Frag} {mg : Str → Option Value} {F : Fm} {σ : L2.St} {G G' H H' : Hp} {en : En}
theorem view_ref {v : V} {d : D} {k : Vw} (h : Dp K G v d) (e : viewOf d = some k) : ∃ b, v = .ref b ∧ Dp K G (.ref b) (vwD k) := by
  rw [viewOf_some e] at h
  have h0 := h
  unfold FD at h
  cases h with
  | tup sq da => exact ⟨_, rfl, h0⟩
theorem Gd.ownVw {i : Nat} {kvs : List (Vw × D)} (g : Gd K F G H σ en) (e : en[i]? = some (.own (.dv kvs))) : ∃ p vs, σ[i]? = some (some (.ref p)) ∧ G p = none ∧ H p = some (DVO p vs) ∧ (vs.map (·.1)).Nodup ∧ TvV K G vs kvs ∧ (F.Z p ∨ F.H0 p = none) := by
  obtain ⟨om, s⟩ := g.sat
  obtain ⟨v, as, h1, ⟨p, vs, rfl, rfl, h4, h5, nd, h6⟩, h3⟩ := s i _ e
  exact ⟨p, vs, h1, h4, h5, nd, h6, (h3 p (by simp)).2⟩
theorem Gd.mutVw {i : Nat} {p : Addr} {ws vs : List XV} {ds es : List (Vw × D)} (g : Gd K F G H σ en) (he : en[i]? = some (.own (.dv ds))) (hs : σ[i]? = some (some (.ref p))) (hg : G p = none) (hh : H p = some (DVO p vs)) (hnd : (vs.map (·.1)).Nodup) (hv : TvV K G vs ds) (wnd : (ws.map (·.1)).Nodup) (hd : TvV K G ws es) :
    Gd K F G (upd H p (DVO p ws)) σ (en.set i (.own (.dv es))) := by
  refine g.callM rfl (fun h => nomatch h) he hs (as := [p]) ⟨p, vs, rfl, rfl, hg, hh, hnd, hv⟩ ⟨Same.refl _, fun a x e => ?_, fun _ _ h _ => h, fun a o e hz => ?_, fun a h => ?_⟩ ⟨p, ws, rfl, rfl, hg, upd_same, wnd, hd⟩
  · have : a ≠ p := fun z => by rw [z, hg] at e; cases e
    rw [upd_ne this]; exact g.gf.gh a x e
  · have : a ≠ p := fun z => hz (by rw [z]; exact List.mem_singleton_self _)
    rw [upd_ne this]; exact e
  · by_cases q : a = p
    · subst q; rw [upd_same]; exact fun z => by cases z
    · rw [upd_ne q]; exact h
theorem Gd.setOwnVw {i : Nat} {p : Addr} {vs : List XV} {ds : List (Vw × D)} (g : Gd K F G H σ en) (hi0 : i ≠ 0) (hg : G p = none) (hh : H p = some (DVO p vs)) (nd : (vs.map (·.1)).Nodup) (hd : TvV K G vs ds) (h0 : F.Z p ∨ F.H0 p = none) (fr : Free K G H σ en p) :
    Gd K F G H (σ.set i (some (.ref p))) (en.set i (.own (.dv ds))) := by
  obtain ⟨om, s⟩ := g.sat
  refine ⟨g.gf, by rw [List.length_set, List.length_set, g.len], ⟨fun a => if a = p then i else om a, fun j sv e => ?_⟩, fun i0 mo hm e => ?_⟩
  · by_cases q : i = j
    · subst q
      by_cases hi : i < en.length
      · rw [List.getElem?_set_self hi] at e
        cases e
        exact ⟨.ref p, [p], by rw [List.getElem?_set_self (by rw [← g.len]; exact hi)], ⟨p, vs, rfl, rfl, hg, hh, nd, hd⟩, fun a ha => by
          have : a = p := by simpa using ha
          subst this
          exact ⟨if_pos rfl, h0⟩⟩
      · rw [List.getElem?_eq_none (by rw [List.length_set]; omega)] at e
        cases e
    · rw [List.getElem?_set_ne q] at e ⊢
      have z := s j sv e
      cases sv with
      | un => trivial
      | dat d => exact z
      | own mo =>
        obtain ⟨v, as, h1, h2, h3⟩ := z
        refine ⟨v, as, h1, h2, fun a ha => ⟨?_, (h3 a ha).2⟩⟩
        have : a ≠ p := fun z => fr _ _ _ _ e h1 h2 (by rw [← z]; exact ha)
        show (if a = p then i else om a) = j
        rw [if_neg this]
        exact (h3 a ha).1
  · have q := pin_ne hi0 rfl hm e
    rw [List.getElem?_set_ne q] at e ⊢
    exact g.pin i0 mo hm e
/-- x = {} -/
def mNewV (i : Nat) : Sm := fun en => if i = 0 then .stk else .ok (.nx, en.set i (.own (.dv [])))
theorem ss_newV {E : XK} {i : Nat} : SS K mg E (tAsg tVNew (gName i)) (mNewV i) := by
  refine ⟨fun F σ en G H D g h => ?_⟩
  unfold mNewV at h
  split at h
  · exact h.elim
  rename_i hi
  intro p hp
  have f3 := gf0_new (o := DVO p []) g.gf.gh hp
  have g3 := g.grow f3
  exact h _ _ _ (g3.setOwnVw (ds := []) hi (Same.free g.gf.gh hp) upd_same List.nodup_nil .nil (.inr (h0_new g hp)) (free_new g hp f3)) f3.g0
/-- d[k] -/
def eGetV (i : Nat) (m : Em) : Em := fun en => match dvAt en i with
  | none => .stk
  | some _ => (m en).bind fun p => match dvAt p.2 i, viewOf p.1 with
    | some kvs, some k => match getV kvs k with
      | some d => .ok (d, p.2)
      | none => .stk
    | _, _ => .stk
theorem keysV_up {vs : List XV} {kvs : List (Vw × D)} (g : Same G H) (h : TvV K G vs kvs) : KeysV K H vs := fun x hx => dp_mono g _ _ (tvv_keys h x hx)
theorem se_getV {E : L2.St → XK} {i : Nat} {te : TE} {m : Em} (h1 : SE K mg E te m) : SE K mg E (tVGet K (tVar i) te) (eGetV i m) := by
  refine ⟨fun F σ en G H Q g h => ?_⟩
  unfold eGetV at h
  split at h
  · exact h.elim
  rename_i kv0 e0
  obtain ⟨p0, vs0, k1, _⟩ := g.ownVw (dvAt_some e0)
  refine ⟨.ref p0, k1, ?_⟩
  show te σ H _
  refine se_bind h1 g poE_err id h fun d en1 v G1 H1 p1 g1 s1 d1 => ?_
  split at p1
  · rename_i kvs k e1 e2
    obtain ⟨b, rfl, sq⟩ := view_ref d1 e2
    obtain ⟨p, vs, l1, l2, l3, _, l4, l5⟩ := g1.ownVw (dvAt_some e1)
    rw [k1] at l1; cases l1
    split at p1
    · rename_i z hz
      have q := tvv_get k l4
      rw [hz] at q
      obtain ⟨a, val, w, h1, h3, h4⟩ := q
      exact ⟨p0, vs, k, (a, val), w, rfl, l3, keysV_up g1.gf.gh l4, ⟨b, rfl, dp_mono g1.gf.gh _ _ sq⟩, h1, h3, p1 w G1 H1 g1 s1 h4⟩
    · exact p1.elim
  · exact p1.elim
/-- d.get(k, x) -/
def eGetDV (i : Nat) (m x : Em) : Em := fun en => match dvAt en i with
  | none => .stk
  | some _ => (m en).bind fun p => (x p.2).bind fun q => match dvAt q.2 i, viewOf p.1 with
    | some kvs, some k => .ok ((getV kvs k).getD q.1, q.2)
    | _, _ => .stk
theorem se_getDV {E : L2.St → XK} {i : Nat} {te tx : TE} {m x : Em} (h1 : SE K mg E te m) (h2 : SE K mg E tx x) : SE K mg E (tVGet2 K (tVar i) te tx) (eGetDV i m x) := by
  refine ⟨fun F σ en G H Q g h => ?_⟩
  unfold eGetDV at h
  split at h
  · exact h.elim
  rename_i kv0 e0
  obtain ⟨p0, vs0, k1, _, k3, _⟩ := g.ownVw (dvAt_some e0)
  refine ⟨.ref p0, k1, ⟨p0, vs0, rfl, k3⟩, ?_⟩
  show te σ H _
  refine se_bind h1 g poE_err id h fun d en1 v G1 H1 p1 g1 s1 d1 => ?_
  dsimp only at p1
  show tx σ H1 _
  refine se_bind h2 g1 poE_err id p1 fun e en2 u G2 H2 p2 g2 s2 d2 => ?_
  dsimp only at p2
  split at p2
  · rename_i kvs k e1 e2
    obtain ⟨b, rfl, sq⟩ := view_ref (dp_mono s2 _ _ d1) e2
    obtain ⟨p, vs, l1, l2, l3, _, l4, l5⟩ := g2.ownVw (dvAt_some e1)
    rw [k1] at l1; cases l1
    refine ⟨p0, vs, k, rfl, l3, keysV_up g2.gf.gh l4, ⟨b, rfl, dp_mono g2.gf.gh _ _ sq⟩, ?_⟩
    have q := tvv_get k l4
    cases hz : getV kvs k with
    | some z =>
      rw [hz] at q p2
      obtain ⟨a, val, w, h1, h3, h4⟩ := q
      rw [h1]
      exact ⟨w, h3, p2 w G2 H2 g2 (s1.trans s2) h4⟩
    | none =>
      rw [hz] at q p2
      rw [show atKey vs k = none from q]
      exact p2 u G2 H2 g2 (s1.trans s2) d2
  · exact p2.elim
/-- d[k] = v -/
def mPutV (i : Nat) (k v : Em) : Sm := fun en => (v en).bind fun p => match dvAt p.2 i with
  | none => .stk
  | some _ => (k p.2).bind fun q => match dvAt q.2 i, viewOf q.1 with
    | some kvs, some j => if kvs.length < big then .ok (.nx, q.2.set i (.own (.dv (putV kvs j p.1)))) else .stk
    | _, _ => .stk
theorem ss_putV {E : XK} {i : Nat} {tk tv : TE} {k v : Em} (h1 : SE K mg (fun _ => E) tk k) (h2 : SE K mg (fun _ => E) tv v) : SS K mg E (sVPut K (tVar i) tk tv) (mPutV i k v) := by
  refine ⟨fun F σ en G H D g h => ?_⟩
  unfold mPutV at h
  show tv σ H _
  refine se_bind h2 g poS_err id h fun d en1 x G1 H1 p1 g1 s1 d1 => ?_
  split at p1
  · exact p1.elim
  rename_i kv0 e0
  obtain ⟨p0, vs0, k1, _⟩ := g1.ownVw (dvAt_some e0)
  refine ⟨.ref p0, k1, ?_⟩
  show tk σ H1 _
  refine se_bind h1 g1 poS_err id p1 fun d2 en2 y G2 H2 p2 g2 s2 dd2 => ?_
  split at p2
  · rename_i kvs j e1 e2
    obtain ⟨c, rfl, sq⟩ := view_ref dd2 e2
    obtain ⟨p, vs, l1, l2, l3, nd, l4, l5⟩ := g2.ownVw (dvAt_some e1)
    rw [k1] at l1; cases l1
    split at p2
    · rename_i hl
      refine ⟨p0, vs, j, c, rfl, l3, keysV_up g2.gf.gh l4, rfl, dp_mono g2.gf.gh _ _ sq, by rw [tvv_len l4]; exact big_lt hl, fun nd val rv => ?_⟩
      exact p2 σ G2 _ (g2.mutVw (dvAt_some e1) k1 l2 l3 nd l4 (stored_nd nd) (tvv_put l4 sq rv (dp_mono s2 _ _ d1) nd)) (s1.trans s2)
    · exact p2.elim
  · exact p2.elim
end
end Mir
end
section
set_option Elab.async false
set_option linter.all false
set_option maxRecDepth 100000
set_option maxHeartbeats 4000000
namespace Mir
open PySem PySem.Spec PyProof.Rows L2
open PySem.W (EachIs dataKind)
end Mir
end
section
set_option Elab.async false
set_option linter.all false
set_option maxRecDepth 100000
set_option maxHeartbeats 4000000
namespace Mir
open PySem PySem.Spec PyProof.Rows L2
/-- d is an instance of c: its fields -/
def insD (c : Str) : D → Option (List (D × D))
  | .dict ((.str c', .none) :: kvs) => if c' = c then some kvs else none
  | _ => none
@[simp] theorem insD_ok (c : Str) (kvs : List (D × D)) : insD c (.dict ((.str c, .none) :: kvs)) = some kvs := by simp [insD]
end Mir
end
section
set_option Elab.async false
set_option linter.all false
set_option maxRecDepth 100000
set_option maxHeartbeats 4000000
namespace Mir
open PySem PySem.Spec PyProof.Rows L2
section
variable {X : Cx} {j k : Nat} {d : He.DefD} {ps : List Str} {sp : Sp} {E : L2.St → XK} {p pos : Pos}
variable {P : Program} {w : World} {K : PySem.W.Frag} {mg : Str → Option Value} {base : Heap}
theorem pe_calEX [CxK] (c : CalG X.prog X.w X.K X.mg X.base k d ps sp) (hgd : X.A.guards = some []) (hr : Room j X.A) (hk : k ≤ j) (hx : ∀ σ, PassesAt (CxK.cx X.prog X.w) X σ (E σ)) (hg : Gl X d.name := by rfl) (hdb : (d.name == ("__debug__" : Str)) = false := by decide) :
    PE X (.Call (.Name d.name p) [] [] pos) (tCallG sp E tNil) := by
  obtain ⟨fd, F, Fn, B⟩ := c.ex
  refine ⟨fun pins s σ H Q I h => ?_⟩
  refine wpAny_Call_Name_kw (ld_glob I hg c.glo ?_ hdb)
  exact PySem.W.callWith_K0 I.kIn F.kp (go_fn (us := []) (vs := []) Fn hgd (hr.mono hk) B (hx σ) I .nil h)
theorem pe_calE [CxK] (c : CalG P w K mg base k d ps sp) (hgd : X.A.guards = some []) (hr : Room j X.A) (hk : k ≤ j) (hx : ∀ σ, PassesAt (CxK.cx X.prog X.w) X σ (E σ))
    (z1 : X.prog = P := by rfl) (z2 : X.w = w := by rfl) (z3 : X.K = K := by rfl) (z4 : X.mg = mg := by rfl) (z5 : X.base = base := by rfl) (hg : Gl X d.name := by rfl) (hdb : (d.name == ("__debug__" : Str)) = false := by decide) :
    PE X (.Call (.Name d.name p) [] [] pos) (tCallG sp E tNil) := by
  subst z1 z2 z3 z4 z5
  exact pe_calEX c hgd hr hk hx hg hdb
end
end Mir
end
section
set_option Elab.async false
set_option linter.all false
set_option maxRecDepth 100000
set_option maxHeartbeats 4000000
namespace Mir
open PySem PySem.Spec PyProof.Rows L2
section
variable {K : PySem.W.Frag} {mg : Str → Option Value} {F : Fm} {σ : L2.St} {G G' H H' : Hp} {en : En}
def mSetD (i : Nat) (ix : Em) (m : Em) : Sm := fun en => (m en).bind fun p => match dlAt p.2 i with
  | none => .stk
  | some _ => (ix p.2).bind fun q => match dlAt q.2 i with
    | none => .stk
    | some ds => match ixI ds.length q.1 with
      | none => .stk
      | some j => .ok (.nx, q.2.set i (dlK q.2 i (ds.set j p.1)))
theorem ss_setD {E : XK} {i : Nat} {te ti : TE} {m ix : Em} (h1 : SE K mg (fun _ => E) te m) (h2 : SE K mg (fun _ => E) ti ix) : SS K mg E (tAsg te (gSub (tVar i) ti rSetL)) (mSetD i ix m) := by
  refine ⟨fun F σ en G H D g h => ?_⟩
  show te σ H _
  refine se_bind h1 g poS_err id h fun d en1 v G1 H1 p1 g1 s1 d1 => ?_
  split at p1
  · exact p1.elim
  rename_i ds0 e0
  obtain ⟨p, vs, k1, k2, k3, k4, k5⟩ := g1.ownD e0
  refine ⟨.ref p, k1, ?_⟩
  show ti σ H1 _
  refine se_bind h2 g1 poS_err id p1 fun e en2 u G2 H2 p2 g2 s2 d2 => ?_
  split at p2
  · exact p2.elim
  rename_i ds e2
  split at p2
  · exact p2.elim
  rename_i j ej
  obtain ⟨kk, rfl, ek⟩ := ixI_some ej
  cases d2
  obtain ⟨p', ws, l1, l2, l3, l4, l5⟩ := g2.ownD e2
  rw [k1] at l1; cases l1
  refine ⟨p, ws, kk, j, rfl, rfl, l3, by rw [dpa_len l4]; exact ek, ?_⟩
  exact p2 σ G2 _ (g2.mutD e2 k1 l2 l3 l4 (dpa_set j l4 (dp_mono s2 _ _ d1))) (s1.trans s2)
def x2 (f : D → D → Rs D) (m n : List (Str × D) → Rs D) (fs : List (Str × D)) : Rs D := (m fs).bind fun d => (n fs).bind fun e => f d e
theorem sx_2 {r : R2} {f : D → D → Rs D} {i : Nat} {a C dd : Addr} {te tf : TE} {m n : List (Str × D) → Rs D} (ho : O2 K r f) (h1 : SX K i a C dd te m) (h2 : SX K i a C dd tf n) : SX K i a C dd (tOp r te tf) (x2 f m n) := by
  refine ⟨fun σ G H xs fs z Q gh hi hd ok e q => ?_⟩
  obtain ⟨d, e1, e2⟩ := bind_is e
  obtain ⟨d2, e3, e4⟩ := bind_is e2
  show te σ H _
  refine h1.run σ G H xs fs d _ gh hi hd ok e1 fun v G1 H1 f1 d1 => ?_
  refine h2.run σ G1 H1 xs fs d2 _ f1.gh hi (f1.pres dd _ hd id) (fsOk_mono f1.g0 ok) e3 fun u G2 H2 f2 du => ?_
  exact ho.run G2 H2 v u d d2 z f2.gh (dp_mono f2.g0 _ _ d1) du e4 Q fun w G3 H3 f3 dw => q w G3 H3 (gf0_trans f1 (gf0_trans f2 f3)) dw
end
end Mir
end
section
set_option Elab.async false
set_option linter.all false
set_option maxRecDepth 100000
set_option maxHeartbeats 4000000
namespace Mir
open PySem PySem.Spec PyProof.Rows L2
instance instCxN : CxK where
  cx := L2N.CX
  no := fun _ _ _ _ _ _ _ ⟨_, _, _, _, _, _, _, _, _, _, _, _, z⟩ => z
theorem passEN {X : Cx} {E : XK} (tk : L2N.Takes X (fun cls d _ H => E cls d H)) (σ : L2.St) : PassesAt (CxK.cx X.prog X.w) X σ E := L2N.passAt tk σ
theorem mk_endN {X : Cx} {pins : List (Addr × Obj)} {σ : L2.St} {H1 H2 : Hp} {Q : XK} {hp hp2 h2 : Heap} {g1 g2 : Array GenState} {d1 d2 : Drawn} {t1 t2 : Nat} {os1 os2 : OsState} {a C d : Addr} {fs : List (Str × V)} (T : Raises X (.ref C)) (I1 : Inv X pins σ H1 ⟨hp, g1, d1, t1, os1⟩)
    (ha : hp.objs.size ≤ a) (k : ∀ b o, hp.get? b = some o → hp2.get? b = some o) (un : Un (frs X.stack) [] (upd H1 a (exo a C none)) H2 hp2 h2) (hok : HOk X.prog X.w H2 h2) (ho : os2 = os1) (hb : AllBare g2)
    (ea : H2 a = some (exo a C (some d))) (ed : H2 d = some (exd d fs)) (hd1 : H1 d = none) (q : Q (.ref C) (some d) (upd (del H2 a) d (.xd fs))) : L2N.MkP X pins σ Q (.ref a) ⟨h2, g2, d2, t2, os2⟩ := by
  obtain ⟨t0, G, J, kG, ge, hoe, na⟩ := mk_end0 (d2 := d2) (t2 := t2) I1 ha k un hok ho hb ea ed hd1
  exact ⟨a, _, _, ⟨G, g2, d2, t2, os2⟩, _, .ref C, some d, rfl, J, kG, ge, hoe, ⟨rfl, rfl, fun vs hv => by cases hv; rfl⟩, rfl, rfl, na, rfl, hb, T, q⟩
theorem pmk_oexN {X : Cx} {CX : CXT} {x : Str} {C fI : Addr} {k : Nat} {fd : FuncData} {ps : List Str} {sp : Sp} {e : Expr} {es : List Expr} {ta : TA} {p pos : Pos} (T : OexC X.K C) (iC : PySem.W.findIn X.K (.ref C) "__init__" = some (some (.ref fI))) (tI : PySem.W.typeIn X.K (.ref fI) = some (.type "function"))
    (F1 : FnOk X.prog X.w X.K X.mg X.base CX k fI fd ps sp) (hr : Room (k + 1) X.A) (hb : Binds X.K fd ps []) (hx : Passes CX X (fun _ _ _ => False)) (hg : Gl X x) (hm : X.mg x = some (.ref C)) (ha : PA X (e :: es) ta)
    (hdb : (x == ("__debug__" : Str)) = false := by decide) (he : starEach (e :: es) X.env = (false, eval e X.env) :: starEach es X.env := by rfl) (hpl : (backTo pos (starEach es X.env)).any (·.1) = false := by rfl) :
    L2N.PMk X (.Call (.Name x p) (e :: es) [] pos) (tMkO C sp [] ta) := by
  intro pins s σ H Q I h
  obtain ⟨nm, q, N, bs, bm, sn, sub, ab, col, dd, k0, k1, k2, k3, k5, hC, hbm⟩ := T.cls
  refine wpAny_Call_Name_kw (ld_glob I hg hm ?_ hdb)
  refine PySem.W.callWith_K (h₀ := X.base) I.ok.mod.kin T.kC (thn (ha.run pos pins s σ H _ I h) fun us s1 ⟨vs, H1, I1, r1, hz, q1⟩ => ⟨I1.kIn, ?_⟩) he hpl
  show wpAny _ _ (call (.ref C) us) _ _ _
  obtain ⟨hp, g, dr, tk, os⟩ := s1
  have hsz : hp.objs.size ≤ hp.objs.size + 1 := Nat.le_succ _
  have hn : H1 (hp.objs.size + 1) = none := I1.hok.fresh hsz
  have hq := q1 (hp.objs.size + 1) hn
  rw [List.append_nil] at hq
  have kk : ∀ b o, hp.get? b = some o → ((hp.push (PySem.W.kdv_tup us)).push (PySem.HandSPX.excO C hp.objs.size)).get? b = some o := fun b o e => Heap.get?_push_of_some _ (Heap.get?_push_of_some _ e)
  have hget : ((hp.push (PySem.W.kdv_tup us)).push (PySem.HandSPX.excO C hp.objs.size)).get? (hp.objs.size + 1) = some (PySem.HandSPX.excO C hp.objs.size) := by heap_get
  have I2 : Inv X pins σ (upd H1 (hp.objs.size + 1) (exo (hp.objs.size + 1) C none)) ⟨(hp.push (PySem.W.kdv_tup us)).push (PySem.HandSPX.excO C hp.objs.size), g, dr, tk, os⟩ :=
    I1.laid (t' := tk) (a := hp.objs.size + 1) (o := exo (hp.objs.size + 1) C none) (h' := (hp.push (PySem.W.kdv_tup us)).push (PySem.HandSPX.excO C hp.objs.size)) kk hsz (exo_ok hget)
  have r2 : Vals (V.ref (hp.objs.size + 1) :: vs) (Value.ref (hp.objs.size + 1) :: us) := .cons rfl r1
  have hl : (Value.ref (hp.objs.size + 1) :: us ++ []).length = ps.length := by
    have e := r2.length
    rw [F1.len _ _ _ _ hq] at e
    rw [List.append_nil]
    exact e.symm
  have b2 := hb _ (Value.ref (hp.objs.size + 1) :: us) I2.kIn hl
  rw [List.append_nil] at b2
  have hus : us.length ≤ sizeLine := by
    rw [← Paired.length r1, sizeLine_eq]
    omega
  refine wpAny_call (PySem.HandSPX.call_own F.excBase_ValueError (fun Y => PySem.HandSPX.refsVE_contains Y bm hbm) (I1.kIn _ _ hC) (PySem.W.looks_findIn I1.kIn iC) (fun self => PySem.W.bind_fn I1.kIn self tI) hus
    (codeAny_mono (F1.run _ X.stack _ _ ⟨Value.ref (hp.objs.size + 1) :: us, []⟩ (Value.ref (hp.objs.size + 1) :: us) _ _ (fun _ _ _ => False) (hr.make C us []) (I2.env0.make C us []) b2 r2 hq) fun r s' hq' => ?_))
  cases r with
  | error er => exact hx pins σ _ _ er s' I2 hq'
  | ok fl =>
    cases fl with
    | ret u =>
      obtain ⟨v, H2, os2, bare2, un2, hok2, rv, ev, d, fs, ea, ed, hd1, q2⟩ := hq'
      subst ev
      obtain ⟨h2, g2, d2, t2, os'⟩ := s'
      exact ⟨rv, mk_endN (raises_own T.exC T.tyC) I1 hsz kk un2 hok2 os2 bare2 ea ed hd1 q2⟩
    | next => exact False.elim hq'
    | brk => exact False.elim hq'
    | cont => exact False.elim hq'
theorem ps_raiseCN {X : Cx} {E : XK} {j : Nat} {c f1 f2 : Str} {d : He.DefD} {e : Expr} {es : List Expr} {ta : TA} {p pos pos2 : Pos} (C : ErrC X.prog X.w X.K X.mg X.base c f1 f2 d) (hc : X.calm = true) (hr : Room j X.A) (hk : 2 ≤ j) (tk : L2N.Takes X (fun cls d _ H => E cls d H)) (ha : PA X (e :: es) ta) (hg : Gl X c := by rfl)
    (hdb : (c == ("__debug__" : Str)) = false := by decide) (he : starEach (e :: es) X.env = (false, eval e X.env) :: starEach es X.env := by rfl) (hpl : (backTo pos (starEach es X.env)).any (·.1) = false := by rfl) :
    PS X (.Raise (some (.Call (.Name c p) (e :: es) [] pos)) none pos2) (fun _ σ H => tMkO (He.ga X.K c) (spIni (He.ga X.K c) f1 f2) [] ta σ H fun cls d H' => E cls d H') := by
  obtain ⟨fd, F, B⟩ := C.run
  exact L2N.ps_raise (W := fun cls d _ H => E cls d H) hc tk (pmk_oexN C.oex C.init C.ty F (hr.mono hk) B (fun pins σ H s e s' I c => by
    obtain ⟨_, _, _, _, _, _, _, _, _, _, _, _, z⟩ := c
    exact z.elim) hg C.glo ha hdb he hpl)
def errY1 (c : Str) (d : Str × Option Str) (f1 : Str) : List YesNo := [fun K => oexB K (He.ga K c), fun K => decide (PySem.W.findIn K (.ref (He.ga K c)) "__init__" = some (some (.ref (He.fAd K d)))), fun K => decide (PySem.W.typeIn K (.ref (He.fAd K d)) = some (.type "function")),
  fun K => decide (PySem.W.findIn K (.ref (He.ga K c)) f1 = some none), fun K => xfB K (He.ga K c)]
inductive HdsAN (X : Cx) : List ExceptHandler → List HdT → Prop
  | nil : HdsAN X [] []
  | cons {x n : Str} {c : Value} {i : Nat} {ts : Addr → Value → Option Addr → TS} {b₀ : Stmt} {suite : List Stmt} {np pos' : Pos} {hds : List ExceptHandler} {l : List HdT} (hi : X.N[i]? = some n) (hln : X.env.kindOf n = some .local) (hc : Names X x c)
      (hsu : ∀ (a : Addr) (oe : Obj) (cls : Value) (d : Option Addr) (pn : List (Addr × Obj)), L2N.Zn cls d oe → (∃ vs, oe.data = .fields vs) → PSs (X.suite a ((a, oe) :: pn)) (b₀ :: suite) (ts a cls d)) (r : HdsAN X hds l) :
      HdsAN X (.ExceptHandler (some (.Name x np)) (some n) (b₀ :: suite) pos' :: hds) ((c, i, ts) :: l)
  | dead {hd : List ExceptHandler} {c : Value} {i : Nat} {ts : Addr → Value → Option Addr → TS} (hc : ∀ cls, PySem.W.exmOne X.K cls c = none) : HdsAN X hd [(c, i, ts)]
section
variable {X : Cx} {body : List Stmt} {hd0 : ExceptHandler} {hds : List ExceptHandler} {l : List HdT} {pos : Pos} {tb : WX → TS} {Wout : WX}
theorem ps_try_allN (hs : X.stack = X.env :: X.outer) (hf : X.env.frame = some X.env.locals) (hN : X.N.Nodup) (tk : L2N.Takes X Wout)
    (hb : ∀ (W : WX) (pn : List (Addr × Obj)) (xe : Value → Shared → Prop), L2N.Takes (X.tr pn xe) W → PassesOwn (model X.prog X.w) X.A X.env xe → PSs (X.tr pn xe) body (tb W)) (hh : HdsAN X (hd0 :: hds) l) :
    PS X (.Try body (hd0 :: hds) [] [] pos) (fun D σ H => tb (wAll X.K Wout D l) D σ H) := by
  refine ⟨fun pins s σ H D I h => ?_⟩
  have ok := I.ok; have frm : X.A.frames = some (X.env :: X.outer) := by rw [ok.frames, hs]
  refine wpAny_Try_except ?_
  refine wpAny_mono ((hb (wAll X.K Wout D l) (X.pn ++ pins) (fun e s₁ => wpAny (model X.prog X.w) X.A (noteFrame e X.env) (fun _ s₂ => wpAny (model X.prog X.w) X.A (setFlight e none) (fun _ s₃ =>
    wpAny (model X.prog X.w) X.A (handleBy e X.env (hd0 :: hds)) (SP X pins D) X.xe s₃) X.xe s₂) X.xe s₁) (fun u s' xx => ?_) PassesOwn.looking).run [] s σ H D (I.toTry _) h) (fun f s1 hsp => ?_) (fun e s1 he => he)
  · obtain ⟨a, B, sI, pins', σ', H', cls, d, rfl, J', nb, up, sky, na, os, ag, wsh⟩ := xx
    have J : Inv X pins σ' H' sI := J'.ofTry ok; have sky2 : Sky B (X.env :: X.outer) a (L2N.Zn cls d) X.env.locals s'.heap := by rw [← hs]; exact sky
    show wpAny (model X.prog X.w) X.A (noteFrame (.ref a) X.env) _ _ _
    refine L2N.Sky.land L2N.Zn.steady frm hf sky2 fun h3 fl3 up3 => ?_
    have J3 : Inv X pins σ' H' { s' with heap := h3 } := J.landed nb fl3.1 (up.trans up3) os ag
    obtain ⟨oe3, vs3, he3, hz3, hd3⟩ := fl3.there
    have apart : a ∉ frs (X.env :: X.outer) := fun hm => by
      obtain ⟨_, o', e', nf⟩ := fl3.2.2.1.mem hm
      rw [he3] at e'; cases e'; exact nf _ hd3
    have nL : a ≠ X.env.locals := fun z => apart (List.mem_filterMap.mpr ⟨X.env, List.mem_cons_self, by rw [hf, z]⟩)
    have nF : a ∉ X.fs := fun hm => by
      obtain ⟨e, he, q⟩ := List.mem_filterMap.mp hm
      exact apart (List.mem_filterMap.mpr ⟨e, List.mem_cons_of_mem _ he, q⟩)
    have S3 := J3.suite he3 hd3 na nL nF
    have go : ∀ {hds' : List ExceptHandler} {l' : List HdT}, HdsAN X hds' l' → wAll X.K Wout D l' cls d σ' H' → wpAny (model X.prog X.w) X.A (handleBy (.ref a) X.env hds') (SP X pins D) X.xe { s' with heap := h3 } := by
      intro hds' l' hk
      induction hk with
      | nil =>
        intro w; refine wpAny_handleBy_nil ?_
        obtain ⟨k1, k2, k3, oe, vs, T, oT, ts', he, hz, hd, h1, hr⟩ := id fl3
        unfold PySem.passOn; refine wpAny_bind (wpAny_field he hd h1 ?_)
        rw [if_neg (show ¬ ((Value.ref T == Value.none) = true) from by simp)]
        have fin : wpAny (model X.prog X.w) X.A (setFlight (.ref a) X.env.frame) (fun _ s4 => wpAny (model X.prog X.w) X.A (throw (.ref a) : Sem Flow) (SP X pins D) X.xe s4) X.xe { s' with heap := h3 } := by
          rw [hf]; refine HandSPX.setFlight_upZ fl3 fun h4 hh4 up4 => wpAny_throw (tk _ _ ?_)
          exact ⟨a, B, sI, pins, σ', H', cls, d, rfl, J, nb, (up.trans up3).trans up4, .inr (.inr (by rw [hs]; exact hh4)), na, os, ag, w⟩
        first
          | exact wpAny_bind (wpAny_pure (wpAny_bind fin))
          | exact wpAny_bind fin
      | @cons x n c i ts b₀ suite np pos' hds2 l2 hi hln hc hsu r ih =>
        intro w
        obtain ⟨b, hb1, hyes, hno⟩ := w
        refine wpAny_handleBy_cons (codeAny_handlers_test ?_) (by intro q; cases q)
        have LT : PySem.W.Looks (model X.prog X.w) h3 (typeOf (.ref a)) cls := fun A Q E s k q => wpAny_typeOf_ref (k _ _ he3) (by rw [hz3.1]; exact q)
        have LM := PySem.W.exm_one (M := model X.prog X.w) (J3.kIn) LT hb1
        have test : ∀ {Q : Value → Shared → Prop} {E : Value → Shared → Prop}, Q c { s' with heap := h3 } → wpAny (model X.prog X.w) (X.A.mark (some (.ref a))) (eval (.Name x np) X.env) Q E { s' with heap := h3 } := fun {Q E} q => by
          obtain ⟨hg, dbg, hm | ⟨hm, hv, nn⟩⟩ := hc
          · exact ld_glob (X := X.suite a ((a, oe3) :: (X.pn ++ pins))) S3 hg hm q dbg
          · exact ld_blt (X := X.suite a ((a, oe3) :: (X.pn ++ pins))) S3 hg hm hv q nn dbg
        refine test (LM.here ?_)
        cases b with
        | true =>
          refine codeAny_handlers_suite_as ?_
          refine HandSPX.lands_againZ fl3 fun h4 fl4 up4 => ?_
          have J4 : Inv X pins σ' H' { s' with heap := h4 } := J.landed nb fl4.1 ((up.trans up3).trans up4) os ag
          obtain ⟨oe4, vs4, he4, hz4, hd4⟩ := fl4.there
          have S4 := J4.suite he4 hd4 na nL nF
          refine store_ok (X := X.suite a ((a, oe4) :: (X.pn ++ pins))) (v := .ref a) S4 hN hi (.inl hln) rfl (fun s5 S5 => ?_) (.inr hln)
          refine wpAny_mono ((hsu a oe4 cls d (X.pn ++ pins) hz4 ⟨_, hd4⟩).run [] s5 _ H' _ S5 (hyes rfl a na)) (fun f s6 hsp => ?_) (fun _ _ z => False.elim z)
          have gone : ∀ {σ6 : L2.St} {H6 : Hp} {Q : Shared → Prop}, Inv (X.suite a ((a, oe4) :: (X.pn ++ pins))) [] σ6 H6 s6 → (∀ s7, Inv X pins (σ6.set i none) H6 s7 → Q s7) →
              wpAny (model X.prog X.w) X.A (do bindName X.env n .none; unbindBehindTheSuite X.env n pos') (fun _ s7 => Q s7) X.xe s6 := fun {σ6 H6 Q} S6 hq => gone_ok (S6.unsuite ok) hN hi hln hq
          cases f with
          | ret u =>
            obtain ⟨v6, σ6, H6, S6, r6, q6⟩ := hsp
            exact gone S6 fun s7 J7 => ⟨_, _, _, J7, r6, q6⟩
          | next =>
            obtain ⟨σ6, H6, S6, q6⟩ := hsp
            exact gone S6 fun s7 J7 => ⟨_, _, J7, q6⟩
          | brk =>
            obtain ⟨σ6, H6, S6, q6⟩ := hsp
            exact gone S6 fun s7 J7 => ⟨_, _, J7, q6⟩
          | cont =>
            obtain ⟨σ6, H6, S6, q6⟩ := hsp
            exact gone S6 fun s7 J7 => ⟨_, _, J7, q6⟩
        | false => exact ih (hno rfl)
      | @dead hd2 c i ts hc =>
        intro w
        obtain ⟨b, hb1, _⟩ := w
        rw [hc] at hb1
        cases hb1
    exact go hh wsh
  · cases f with
    | ret u =>
      obtain ⟨v, σ', H', J', r, q⟩ := hsp
      exact ⟨v, σ', H', J'.ofTry ok, r, q⟩
    | next =>
      obtain ⟨σ', H', J', q⟩ := hsp
      exact wpAny_execs_nil ⟨σ', H', J'.ofTry ok, q⟩
    | brk =>
      obtain ⟨σ', H', J', q⟩ := hsp
      exact ⟨σ', H', J'.ofTry ok, q⟩
    | cont =>
      obtain ⟨σ', H', J', q⟩ := hsp
      exact ⟨σ', H', J'.ofTry ok, q⟩
end
end Mir
end
section
set_option Elab.async false
set_option linter.all false
set_option maxRecDepth 100000
set_option maxHeartbeats 4000000
namespace Mir
open PySem PySem.Spec PyProof.Rows L2
open L2H (RoomH HotC Hot1 PinOk FnH cxH)
/-- the slots hold these texts -/
def HoldsS (σ : L2.St) (vs : List (Nat × Str)) : Prop := ∀ p ∈ vs, σ[p.1]? = some (some (.str p.2))
section
variable {K : PySem.W.Frag} {mg : Str → Option Value} {F : Fm} {σ : L2.St} {G G' H H' : Hp} {en : En}
structure SXv (K : PySem.W.Frag) (vs : List (Nat × Str)) (i : Nat) (a C dd : Addr) (te : TE) (m : List (Str × D) → Rs D) : Prop where
  run : ∀ σ G H xs fs z Q, Same G H → σ[i]? = some (some (.ref a)) → HoldsS σ vs → H dd = some (.xd xs) → FsOk K G xs fs → m fs = .ok z → (∀ v G' H', Gf (F0 G H) G' H' → Dp K G' v z → Q v H') → te σ H Q
structure SXvT (K : PySem.W.Frag) (vs : List (Nat × Str)) (i : Nat) (a C dd : Addr) (ts : TS) (m : List (Str × D) → Rs D) : Prop where
  run : ∀ σ G H xs fs z (D0 : Ends), Same G H → σ[i]? = some (some (.ref a)) → HoldsS σ vs → H dd = some (.xd xs) → FsOk K G xs fs → m fs = .ok z → (∀ v G' H', Gf (F0 G H) G' H' → Dp K G' v z → D0.rt v H') → ts D0 σ H
variable {vs : List (Nat × Str)} {i : Nat} {a C dd : Addr}
theorem sxv_of {te : TE} {m : List (Str × D) → Rs D} (h : SX K i a C dd te m) : SXv K vs i a C dd te m := ⟨fun σ G H xs fs z Q gh hi _ => h.run σ G H xs fs z Q gh hi⟩
/-- a name that holds a text -/
def xStr (vs : List (Nat × Str)) (j : Nat) : List (Str × D) → Rs D := fun _ => match vs.find? (fun p => p.1 == j) with
  | some p => .ok (.str p.2)
  | none => .stk
theorem sxv_str {j : Nat} : SXv K vs i a C dd (tVar j) (xStr vs j) := by
  refine ⟨fun σ G H xs fs z Q gh hi hv hd ok e q => ?_⟩
  unfold xStr at e
  split at e
  · rename_i p hp
    cases e
    have e1 : p.1 = j := by simpa using List.find?_some hp
    have e2 := hv p (List.mem_of_find?_eq_some hp)
    rw [e1] at e2
    exact ⟨_, e2, q _ G H (gf_id gh) (.str _)⟩
  · cases e
theorem sxvt_ret {te : TE} {m : List (Str × D) → Rs D} (h : SXv K vs i a C dd te m) : SXvT K vs i a C dd (tRet te) m := ⟨fun σ G H xs fs z D0 gh hi hv hd ok e q => h.run σ G H xs fs z _ gh hi hv hd ok e q⟩
inductive HmOkV (K : PySem.W.Frag) (mg : Str → Option Value) (k : Nat) (js : List Nat) (vs : List (Nat × Str)) : List HdT → List HdM → Prop
  | nil : HmOkV K mg k js vs [] []
  | cons {c : Value} {i : Nat} {ts : Addr → Value → Option Addr → TS} {l : List HdT} {cs : List (Str × Bool)} {hm : List (Str × D) → Rs D} {ms : List HdM} (hi : i ≤ k) (hij : i ∉ js) (hcs : ∀ x bb C, (x, bb) ∈ cs → mg x = some (.ref C) → PySem.W.exmOne K (.ref C) c = some bb)
      (hx : ∀ a C dd, (∃ x, (x, true) ∈ cs ∧ mg x = some (.ref C)) → SXvT K vs i a C dd (ts a (.ref C) (some dd)) hm) (r : HmOkV K mg k js vs l ms) : HmOkV K mg k js vs ((c, i, ts) :: l) ((cs, hm) :: ms)
theorem sx_neg {i : Nat} {a C dd : Addr} (n : Int) : SX K i a C dd (tUn (rU fun i => .int (-i)) (tC (.int n))) (fun _ => .ok (.int (-n))) := ⟨fun σ G H xs fs z Q gh hi hd ok e q => by cases e; exact ⟨n, rfl, q _ G H (gf_id gh) (.int _)⟩⟩
end
end Mir
end
section
set_option Elab.async false
set_option linter.all false
set_option maxRecDepth 100000
set_option maxHeartbeats 4000000
namespace Mir
open PySem PySem.Spec PyProof.Rows L2
end Mir
end
section
set_option Elab.async false
set_option linter.all false
set_option maxRecDepth 100000
set_option maxHeartbeats 4000000
namespace PySem.W
open Lean Elab Tactic Meta PySem PySem.Calls PyProof.Rows
end PySem.W
namespace Mir
open PySem PySem.Spec PyProof.Rows L2
end Mir
end
section
set_option Elab.async false
set_option linter.all false
set_option maxRecDepth 100000
set_option maxHeartbeats 4000000
namespace Mir
open PySem PySem.Spec PyProof.Rows L2
section
variable {K : PySem.W.Frag} {vs : List (Nat × Str)} {i : Nat} {a C dd : Addr}
/-- a and b, both yes or no -/
def xAnd (m r : List (Str × D) → Rs D) : List (Str × D) → Rs D := fun fs => (m fs).bind fun d => match d with
  | .bool true => r fs
  | .bool false => .ok (.bool false)
  | _ => .stk
theorem sxv_and {te tf : TE} {m r : List (Str × D) → Rs D} (h1 : SXv K vs i a C dd te m) (h2 : SXv K vs i a C dd tf r) : SXv K vs i a C dd (tAndV te tf) (xAnd m r) := by
  refine ⟨fun σ G H xs fs z Q gh hi hv hd ok e q => ?_⟩
  obtain ⟨d, e1, e2⟩ := bind_is e
  refine h1.run σ G H xs fs d _ gh hi hv hd ok e1 fun v G1 H1 f1 d1 => ?_
  split at e2
  · cases d1
    exact ⟨true, rfl, h2.run σ G1 H1 xs fs z _ f1.gh hi hv (f1.pres dd _ hd id) (fsOk_mono f1.g0 ok) e2 fun u G2 H2 f2 d2 => q u G2 H2 (gf0_trans f1 f2) d2⟩
  · cases d1
    cases e2
    exact ⟨false, rfl, q _ G1 H1 f1 (.bl false)⟩
  · cases e2
end
end Mir
end
section
set_option Elab.async false
set_option linter.all false
set_option maxRecDepth 100000
set_option maxHeartbeats 4000000
namespace Mir
open PySem PySem.Spec PyProof.Rows L2
end Mir
end
section
set_option Elab.async false
set_option linter.all false
set_option maxRecDepth 100000
set_option maxHeartbeats 4000000
namespace Mir
open PySem PySem.Spec PyProof.Rows L2
end Mir
end
section
set_option Elab.async false
set_option linter.all false
set_option maxRecDepth 100000
set_option maxHeartbeats 4000000
namespace Mir
open PySem PySem.Spec PyProof.Rows L2
open LamX (CodeO TabB LamS lamEnv lamCx)
/-- a lambda of the def with the table P was made: its code object is c' -/
def Made (H H1 : Hp) (P : Addr) (q : Str) (ps : Array Value) (c' : Addr) : Prop := H1 = H ∨
  (H c' = none ∧ ∃ qs : Array Value, H1 = upd (upd H P (.tbl qs)) c' (CodeO c' q) ∧ TriplesOk qs.toList ∧
    ∀ (pos : Pos) (cv : Value), codeAmong pos qs.toList = some cv → codeAmong pos ps.toList = some cv ∨ cv = .ref c')
def CodesOk (H : Hp) (q : Str) (ps : Array Value) : Prop := ∀ (pos : Pos) (cv : Value), codeAmong pos ps.toList = some cv → ∃ c, cv = .ref c ∧ H c = some (CodeO c q)
abbrev lamQ (X : Cx) : Str := X.env.qual ++ "<lambda>"
abbrev lamObj (X : Cx) (params : Arguments) (body : Expr) (scope : Scope) (pm : Value) (c' : Addr) (ctv : Value) : Obj :=
  PySem.W.kla_obj "<lambda>" (lamQ X) params body scope (cloFrom X.env.cells scope.names []) pm c' ctv
section
variable {X : Cx} {pins : List (Addr × Obj)} {σ : L2.St} {H : Hp} {s : Shared}
theorem lam_mk {c P : Addr} {ps : Array Value} {params : Arguments} {body : Expr} {scope : Scope} {pos : Pos} {E Q : Value → Shared → Prop}
    (I : Inv X pins σ H s) (TB : TabB X.base X.mg c P) (hcode : X.env.code = .ref c) (hP : H P = some (.tbl ps)) (ht : TriplesOk ps.toList) (ha : CodesOk H (lamQ X) ps)
    (hdef : defaultsOf params X.env = ([], [])) (hfree : ∀ y ∈ scope.names, y.2 = .free → ∃ c, X.env.cells.lookup y.1 = some c)
    (h : ∀ (f c' : Addr) (pm ctv : Value) (H1 : Hp) (s' : Shared), Inv X pins σ H1 s' → Made H H1 P (lamQ X) ps c' → s'.heap.get? f = some (lamObj X params body scope pm c' ctv) → H1 f = none → f ∉ frs X.stack →
      H1 c' = some (CodeO c' (lamQ X)) → Q (.ref f) s') :
    wpAny (model X.prog X.w) X.A (eval (.Lambda params body scope pos) X.env) Q E s := by
  refine PySem.W.kla_eval hdef ?_
  have bP := TB.bm.keeps I.bk
  have hP' : s.heap.get? P = some { cls := .none, data := .fields ps } := I.hok P _ hP
  have away : ∀ f, s.heap.objs.size ≤ f → f ∉ frs X.stack := by
    intro f hf z
    rcases List.mem_cons.mp (I.stkSub _ z) with e | e
    · have l := I.lt
      rw [← e] at l
      exact absurd (Nat.lt_of_lt_of_le l hf) (Nat.lt_irrefl _)
    · exact I.nofs hf e
  cases hc : codeAmong pos ps.toList with
  | some cv =>
    obtain ⟨c', rfl, hco⟩ := ha pos cv hc
    refine PySem.W.kla_makeFunctionHit (mg := X.mg) (c := c) (P := P) (ps := ps) (closure_ok hfree) I.ok.glob (I.mod.glob.keeps I.bk) hcode (TB.code.keeps I.bk)
      hP' ht hc bP fun ctv h' tk hx hsz => ?_
    have I1 : Inv X pins σ H { s with heap := h'.push (lamObj X params body scope ((X.mg "__name__").getD .none) c' ctv), toks := tk } :=
      I.kept fun b o e => Heap.get?_push_of_some _ (hx b o e)
    exact h h'.objs.size c' _ ctv H _ I1 (.inl rfl) (Heap.get?_push_size _ rfl) (I.hok.fresh hsz) (away _ hsz) hco
  | none =>
    refine PySem.W.kla_makeFunction (mg := X.mg) (c := c) (P := P) (ps := ps) (closure_ok hfree) I.ok.glob (I.mod.glob.keeps I.bk) hcode (TB.code.keeps I.bk)
      hP' ht hc TB.gP bP fun c' ctv h' tk hx hge hlt hrec htb => ?_
    obtain ⟨c2, oc, vs, t, e2, hoc, hd, hv⟩ := hrec
    cases e2
    have hsz : s.heap.objs.size ≤ h'.objs.size := Nat.le_trans hge (Nat.le_of_lt hlt)
    have nC : H c' = none := I.hok.fresh hge
    have I1 := LamX.inv_table (t' := tk) (more := #[rawInt pos.line, rawInt pos.col, .ref c']) (h' := h'.push (lamObj X params body scope ((X.mg "__name__").getD .none) c' ctv)) I hP
      (fun b o hb e => Heap.get?_push_of_some _ (hx b o hb e)) (Heap.get?_push_of_some _ htb) hge
      ⟨oc, vs, t, Heap.get?_push_of_some _ hoc, hd, hv⟩
    have eL : (ps ++ #[rawInt pos.line, rawInt pos.col, .ref c']).toList = ps.toList ++ [rawInt pos.line, rawInt pos.col, .ref c'] := by simp
    refine h h'.objs.size c' _ ctv _ _ I1 (.inr ⟨nC, _, rfl, ?_, fun p' cv hcv => ?_⟩) (Heap.get?_push_size _ rfl) ?_ (away _ hsz) upd_same
    · rw [eL]
      exact PySem.TriplesOk_snoc _ _ _ _ ht
    · rw [eL] at hcv
      exact LamX.among_app _ ht hcv
    · have n1 : h'.objs.size ≠ c' := Nat.ne_of_gt hlt
      have n2 : h'.objs.size ≠ P := Nat.ne_of_gt (Nat.lt_of_lt_of_le (Heap.lt_size hP') hsz)
      rw [upd_ne n1, upd_ne n2]
      exact I.hok.fresh hsz
end
/-- its context, entered at s from the frames outer -/
def lamN (X : Cx) (A : Around) (outer : List Env) (s : Shared) (H : Hp) (E : XK) (scope : Scope) (f c' : Addr) : Cx :=
  (lamCx X A outer s H E scope f c').tr [] fun e s' => wpAny (model X.prog X.w) (A.deeper (lamEnv X scope s.heap.objs.size f c')) (leaving (lamEnv X scope s.heap.objs.size f c') e)
    (fun _ s2 => L2N.CX X.prog X.w outer H s E e s2) (fun e2 s2 => L2N.CX X.prog X.w outer H s E e2 s2) s'
theorem takes_lamN {X : Cx} {A : Around} {outer : List Env} {s : Shared} {H : Hp} {E : XK} {scope : Scope} {f c' : Addr} : L2N.Takes (lamN X A outer s H E scope f c') (fun cls d _ H => E cls d H) := L2N.takes_of rfl rfl rfl rfl
/-- the context of the def g that asks the lambda -/
abbrev askCx (X : Cx) (Ng : List Str) (qg : Str) (sg : Scope) (g : Addr) (cdg : Value) (s : Shared) (H : Hp) (E : XK) : Cx := cxOf (L2N.CX X.prog X.w) X.prog X.w X.K X.mg X.base Ng qg sg g cdg X.A X.stack s H E
section
variable {X : Cx} {pins : List (Addr × Obj)} {σ : L2.St} {H : Hp} {s : Shared}
theorem pe_ask {Eg : XK} {E2 : L2.St → XK} {Ng : List Str} {qg : Str} {sg : Scope} {g f c' : Addr} {cdg pm ctv : Value} {params : Arguments} {body : Expr} {scope : Scope} {k i : Nat} {a : Str} {pn : List (Addr × Obj)} {xe : Value → Shared → Prop} {tb : XK → TE} {p1 p2 : Pos}
    (I : Inv X pins σ H s) (L : LamS X.env.scope scope) (hf : s.heap.get? f = some (lamObj X params body scope pm c' ctv)) (hfn : H f = none) (hfr : f ∉ frs X.stack)
    (hbind : bindArgs (PySem.W.kla_fn "<lambda>" (lamQ X) params body scope (cloFrom X.env.cells scope.names []) pm (.ref c') ctv) ⟨[], []⟩ = pure [])
    (hx : ∀ σ, PassesAt (L2N.CX X.prog X.w) ((askCx X Ng qg sg g cdg s H Eg).tr pn xe) σ (E2 σ)) (hgd : X.A.guards = some []) (hr : Room (k + 1) (X.A.deeper (envOfC qg sg s.heap.objs.size g cdg)))
    (hbody : ∀ (A : Around) (outer : List Env) (s : Shared) (H : Hp) (E : XK), (A.deeper (lamEnv X scope s.heap.objs.size f c')).guards = some [] → Room k (A.deeper (lamEnv X scope s.heap.objs.size f c')) → PE (lamN X A outer s H E scope f c') body (tb E))
    (hN : Ng[i]? = some a) (hv : Vis sg a) (hd : (a == ("__debug__" : Str)) = false := by decide) (hcd : (a == ("__classdict__" : Str)) = false := by decide) :
    PE ((askCx X Ng qg sg g cdg s H Eg).tr pn xe) (.Call (.Name a p1) [] [] p2) (fun σZ HZ Q => σZ[i]? = some (some (.ref f)) ∧ HZ c' = some (CodeO c' (lamQ X)) ∧ tb (E2 σZ) σ HZ Q) := by
  refine ⟨fun pinsZ sZ σZ HZ Q IZ h => ?_⟩
  obtain ⟨hs, hc, ht⟩ := h
  refine wpAny_Call_Name_kw (thn ((pe_var (pos := p1) (i := i) hN hv hd hcd).run pinsZ sZ σZ HZ (fun v H1 => v = .ref f ∧ H1 = HZ) IZ ⟨.ref f, hs, rfl, rfl⟩) ?_)
  rintro u s1 ⟨v, H1, I1, r1, rfl, rfl⟩
  obtain rfl : u = Value.ref f := r1
  have un : Un (frs X.stack) [] H H1 s.heap s1.heap := I1.base
  have of1 : s1.heap.get? f = some (lamObj X params body scope pm c' ctv) := un.keep f _ hf hfn hfr (fun z => nomatch (show f ∈ ([] : List Addr) from z))
  refine PySem.W.callWith_F0 ⟨_, _, _, _, of1⟩ ?_
  obtain ⟨⟨oc, vs, t, hoc, hdc, hvc⟩, _, _⟩ := I1.hok c' _ hc
  have rc : codeAny (model X.prog X.w) (X.A.deeper (envOfC qg sg s.heap.objs.size g cdg)) (.call (.ref f) ⟨[], []⟩)
      (CR (L2N.CX X.prog X.w) (envOfC qg sg s.heap.objs.size g cdg :: X.stack) X.prog X.w H1 s1 Q (E2 σZ)) s1 := by
    refine PySem.W.kla_callFunE hr.depth of1 rfl L.co L.gen rfl ⟨c', oc, vs, t, rfl, hoc, hdc, hvc⟩ ?_
    rw [hbind]
    refine wpAny_pure (wpAny_newFunctionEnv (fun y hy => (L.own y hy).2) (fun y hy => absurd hy (by simp)) (fun h₁ hns hsb => ⟨I1.nolimit.fresh _ hsb, ?_⟩) L.kind)
    show codeAny _ _ (.expr body (lamEnv X scope s1.heap.objs.size f c')) _ _
    have kp : ∀ b o, s1.heap.get? b = some o → h₁.get? b = some o := fun b o e =>
      hsb.extBut b o (Nat.ne_of_lt (Heap.lt_size e)) (Heap.get?_push_of_some _ e)
    have J0 := LamX.lam_start2 (A := X.A.deeper (envOfC qg sg s.heap.objs.size g cdg)) (outer := envOfC qg sg s.heap.objs.size g cdg :: X.stack) (E := E2 σZ) (f := f) (c' := c')
      (tk := s1.toks + ([] : List (Str × Value)).length) I L I1.env0 hr.hd un hns kp
    have J : Inv (lamN X (X.A.deeper (envOfC qg sg s.heap.objs.size g cdg)) (envOfC qg sg s.heap.objs.size g cdg :: X.stack) s1 H1 (E2 σZ) scope f c') [] σ H1 { s1 with heap := h₁, toks := s1.toks + ([] : List (Str × Value)).length } :=
      J0.toTry _
    refine PySem.W.kla_codeExpr (wpAny_mono ((hbody (X.A.deeper (envOfC qg sg s.heap.objs.size g cdg)) _ s1 H1 (E2 σZ) hgd (hr.deeper _)).run [] _ _ H1 Q J ht) (fun v s' hq => ?_) fun e s' hq => hq)
    obtain ⟨w', H', J', rv, q⟩ := hq
    exact ⟨w', H', J'.os, J'.bare, J'.base, J'.hok, rv, q⟩
  refine wpAny_call (codeAny_mono rc fun r s' hq => ?_)
  cases r with
  | error e => exact hx σZ pinsZ H1 s1 e s' I1 hq
  | ok fl =>
    cases fl with
    | ret u => exact I1.after hq
    | next => exact (show False from hq).elim
    | brk => exact (show False from hq).elim
    | cont => exact (show False from hq).elim
end
end Mir
end
section
set_option Elab.async false
set_option linter.all false
set_option maxRecDepth 100000
set_option maxHeartbeats 4000000
namespace Mir
open PySem PySem.Spec PyProof.Rows L2
open LamX (CodeO TabB LamS lamEnv lamCx)
class LamB (K : PySem.W.Frag) (mg : Str → Option Value) (base : Heap) : Prop where
  tb : ∀ x ∈ lamNames, ∀ c P, PySem.W.tabIn K x = some (c, P) → TabB base mg c P
  nd : (tbA K).Nodup
theorem tb_mem {K : PySem.W.Frag} {x : Str} {c P : Addr} (hx : x ∈ lamNames) (h : PySem.W.tabIn K x = some (c, P)) : (P, x ++ ".<locals>.<lambda>") ∈ tbOf K :=
  List.mem_filterMap.mpr ⟨x, hx, by rw [h]; rfl⟩
def AsksN (X : Cx) (Ng : List Str) (qg : Str) (sg : Scope) (g : Addr) (cdg : Value) (bg : List Stmt) (a : Str) (i : Nat) (q : Str) (TT : List V → (XK → Hp → VK → Prop) → Hp → VK → Prop) : Prop :=
  ∀ (f c' : Addr) (s : Shared) (H : Hp) (vs : List V) (Q : VK) (Eg : XK) (Φ : XK → Hp → VK → Prop),
    (∀ (pn : List (Addr × Obj)) (xe : Value → Shared → Prop) (E2 : L2.St → XK) (p1 p2 : Pos), (∀ σ, PassesAt (L2N.CX X.prog X.w) ((askCx X Ng qg sg g cdg s H Eg).tr pn xe) σ (E2 σ)) →
      PE ((askCx X Ng qg sg g cdg s H Eg).tr pn xe) (.Call (.Name a p1) [] [] p2) (fun σZ HZ Q => σZ[i]? = some (some (.ref f)) ∧ HZ c' = some (CodeO c' q) ∧ Φ (E2 σZ) HZ Q)) →
    (askCx X Ng qg sg g cdg s H Eg).A.guards = some [] → Room 1 (askCx X Ng qg sg g cdg s H Eg).A → H c' = some (CodeO c' q) → vs.length = i → TT vs Φ H Q →
    ∃ t, PSs (askCx X Ng qg sg g cdg s H Eg) bg t ∧ t { nx := fun _ H' => Q .non H', rt := Q } (L2.start Ng (vs ++ [.ref f])) H
def tLamL (P : Addr) (q : Str) (TT : List V → (XK → Hp → VK → Prop) → Hp → VK → Prop) (ta : TA) (t : XK → TE) : TE := fun σ H Q => ta σ H fun vs H1 =>
  ∃ ps : Array Value, H1 P = some (.tbl ps) ∧ TriplesOk ps.toList ∧ CodesOk H1 q ps ∧ ∀ H2 c', Made H1 H2 P q ps c' → H2 c' = some (CodeO c' q) → TT vs (fun E H' Q' => t E σ H' Q') H2 Q
section
variable {X : Cx} {TT : List V → (XK → Hp → VK → Prop) → Hp → VK → Prop} {x a : Str} {c P g : Addr} {k : Nat} {pg : Arguments} {bg : List Stmt} {sg : Scope} {fd : FuncData} {Ng pgs : List Str}
  {params : Arguments} {body : Expr} {scope : Scope} {t : XK → TE} {p lpos pos : Pos}
theorem vals_app : ∀ {vs ws : List V} {us zs : List Value}, Vals vs us → Vals ws zs → Vals (vs ++ ws) (us ++ zs)
  | _, _, _, _, .nil, h => h
  | _, _, _, _, .cons a t, h => .cons a (vals_app t h)
/-- what the call of such a def g comes to, the lambda being made -/
theorem lam_go {pins : List (Addr × Obj)} {σ : L2.St} {H2 : Hp} {s2 : Shared} {Q : VK} {us : List Value} {vs : List V} {f c' : Addr} {pm ctv : Value} {i : Nat}
    (F : FunD X.K x x pg bg sg [] [] g fd) (Sg : FnScope Ng pgs sg) (hNg : Ng[i]? = some a) (hva : Vis sg a) (hi : vs.length = i) (hpl : pgs.length = i + 1) (hb : Binds X.K fd pgs [])
    (hG : ∀ cdg, AsksN X Ng x sg g cdg bg a i (lamQ X) TT) (hgd : X.A.guards = some []) (hr : Room (k + 2) X.A) (L : LamS X.env.scope scope)
    (hbind : ∀ (q : Str) (cl : List (Str × Addr)) (pm cv ctv : Value), bindArgs (PySem.W.kla_fn "<lambda>" q params body scope cl pm cv ctv) ⟨[], []⟩ = pure [])
    (hbody : ∀ (A : Around) (outer : List Env) (s : Shared) (H : Hp) (E : XK) (f c' : Addr), (A.deeper (lamEnv X scope s.heap.objs.size f c')).guards = some [] → Room k (A.deeper (lamEnv X scope s.heap.objs.size f c')) → PE (lamN X A outer s H E scope f c') body (t E))
    (I2 : Inv X pins σ H2 s2) (hf : s2.heap.get? f = some (lamObj X params body scope pm c' ctv)) (hfn : H2 f = none) (hfr : f ∉ frs X.stack) (hco : H2 c' = some (CodeO c' (lamQ X)))
    (r : Vals vs us) (hTT : TT vs (fun E H' Q' => t E σ H' Q') H2 Q)
    (hd : (a == ("__debug__" : Str)) = false := by decide) (hcd : (a == ("__classdict__" : Str)) = false := by decide) :
    wpAny (model X.prog X.w) X.A (call (.ref g) (us ++ [.ref f])) (EP X pins σ Q) X.xe s2 := by
  obtain ⟨oc, od, dV, kV, doc, pmg, an, cdv, ct, osl, rfl, lk, hcdg, _, _⟩ := F.ex
  have rl : Vals (vs ++ [.ref f]) (us ++ [.ref f]) := vals_app r (.cons rfl .nil)
  have hl : (us ++ [Value.ref f] ++ []).length = pgs.length := by
    rw [List.append_nil, List.length_append, ← r.length, hi, hpl]
    rfl
  have b := hb s2 (us ++ [.ref f]) I2.kIn hl
  rw [List.append_nil] at b
  have rc : codeAny (model X.prog X.w) X.A (.call (.ref g) ⟨us ++ [.ref f], []⟩) (CR (L2N.CX X.prog X.w) X.stack X.prog X.w H2 s2 Q (fun _ _ _ => False)) s2 := by
    refine LamX.run_ofS (N := Ng) (ps := pgs) (us := us ++ [.ref f]) (vs := vs ++ [.ref f]) lk hcdg Sg hr I2.env0 b rl (by rw [List.length_append, hi, hpl]; rfl) fun hr' => ?_
    exact hG cdv f c' s2 H2 vs Q (fun _ _ _ => False) (fun E H' Q' => t E σ H' Q')
      (fun pn xe E2 p1 p2 hx => pe_ask (i := i) I2 L hf hfn hfr (hbind _ _ _ _ _) hx hgd hr' (fun A outer s H E g2 hr2 => hbody A outer s H E f c' g2 hr2) hNg hva hd hcd) hgd (hr'.mono (by omega)) hco hi hTT
  refine wpAny_call (codeAny_mono rc fun rs s3 hq => ?_)
  cases rs with
  | error e =>
    obtain ⟨_, _, _, _, _, _, _, _, _, _, _, _, z⟩ := hq
    exact z.elim
  | ok fl =>
    cases fl with
    | ret u => exact I2.after hq
    | next => exact (show False from hq).elim
    | brk => exact (show False from hq).elim
    | cont => exact (show False from hq).elim
/-- g(e, lambda: ..) -/
theorem pe_lam2 {e1 : Expr} {te : TE} (hm : X.mg x = some (.ref g)) (hk : PySem.W.keepIn X.K (.ref g) = true) (F : FunD X.K x x pg bg sg [] [] g fd) (Sg : FnScope Ng pgs sg) (hNg : Ng[1]? = some a) (hva : Vis sg a) (hpl : pgs.length = 2) (hb : Binds X.K fd pgs [])
    (hG : ∀ cdg, AsksN X Ng x sg g cdg bg a 1 (lamQ X) TT) (TB : TabB X.base X.mg c P) (hcode : X.env.code = .ref c) (hgd : X.A.guards = some []) (hr : Room (k + 2) X.A) (L : LamS X.env.scope scope) (hdef : defaultsOf params X.env = ([], []))
    (hbind : ∀ (q : Str) (cl : List (Str × Addr)) (pm cv ctv : Value), bindArgs (PySem.W.kla_fn "<lambda>" q params body scope cl pm cv ctv) ⟨[], []⟩ = pure [])
    (h1 : PE X e1 te) (hbody : ∀ (A : Around) (outer : List Env) (s : Shared) (H : Hp) (E : XK) (f c' : Addr), (A.deeper (lamEnv X scope s.heap.objs.size f c')).guards = some [] → Room k (A.deeper (lamEnv X scope s.heap.objs.size f c')) → PE (lamN X A outer s H E scope f c') body (t E))
    (hg : Gl X x := by rfl) (hdb : (x == ("__debug__" : Str)) = false := by decide) (hd : (a == ("__debug__" : Str)) = false := by decide) (hcd : (a == ("__classdict__" : Str)) = false := by decide)
    (he : starEach [e1, .Lambda params body scope lpos] X.env = (false, eval e1 X.env) :: starEach [.Lambda params body scope lpos] X.env := by rfl) :
    PE X (.Call (.Name x p) [e1, .Lambda params body scope lpos] [] pos) (tLamL P (lamQ X) TT (tCons te tNil) t) := by
  refine ⟨fun pins s σ H Q I h => ?_⟩
  refine wpAny_Call_Name_kw (ld_glob I hg hm ?_ hdb)
  refine PySem.W.callWith_K (h₀ := X.base) I.ok.mod.kin hk ?_ he (by rfl)
  rw [he]
  show wpAny _ _ (spliced ((false, eval e1 X.env) :: (false, eval (.Lambda params body scope lpos) X.env) :: [])) _ _ s
  refine Calls.spliced_cons (thn (h1.run pins s σ H _ I h) fun u1 s1 ⟨v1, H1, I1, r1, hq⟩ => ?_)
  obtain ⟨ps, hP, ht, ha, hnext⟩ := hq
  refine Calls.spliced_cons (lam_mk I1 TB hcode hP ht ha hdef (L.has I1.ok) fun f c' pm ctv H2 s2 I2 md hf hfn hfr hco => ?_)
  refine Calls.spliced_nil ⟨I2.kIn, ?_⟩
  exact lam_go (vs := [v1]) (us := [u1]) F Sg hNg hva rfl hpl hb hG hgd hr L hbind hbody I2 hf hfn hfr hco (.cons r1 .nil) (hnext H2 c' md hco) hd hcd
end
section
variable {K : PySem.W.Frag} {vs : List (Nat × Str)} {i : Nat} {a C dd : Addr}
def xIsi (t : Ty) (m : List (Str × D) → Rs D) : List (Str × D) → Rs D := fun fs => (m fs).bind fun d => .ok (.bool (isi t d))
theorem sxv_isiT {te : TE} {m : List (Str × D) → Rs D} (t : Ty) (h : SXv K vs i a C dd te m) : SXv K vs i a C dd (tCB (rIsiM K) (tCons te (tCons (tC (.ty t.nm)) tNil))) (xIsi t m) := by
  refine ⟨fun σ G H xs fs z Q gh hi hv hd ok e q => ?_⟩
  obtain ⟨d, e1, e2⟩ := bind_is e
  cases e2
  show te σ H _
  refine h.run σ G H xs fs d _ gh hi hv hd ok e1 fun v G1 H1 f1 d1 => ?_
  obtain ⟨T, k1, k2⟩ := kit_dp (dp_mono f1.gh _ _ d1) t
  exact ⟨v, .ty t.nm, _, _, _, rfl, .ty _, k1, k2, q _ G1 H1 f1 (.bl _)⟩
theorem sxv_2 {r : R2} {f : D → D → Rs D} {te tf : TE} {m n : List (Str × D) → Rs D} (ho : O2 K r f) (h1 : SXv K vs i a C dd te m) (h2 : SXv K vs i a C dd tf n) : SXv K vs i a C dd (tOp r te tf) (x2 f m n) := by
  refine ⟨fun σ G H xs fs z Q gh hi hv hd ok e q => ?_⟩
  obtain ⟨d, e1, e2⟩ := bind_is e
  obtain ⟨d2, e3, e4⟩ := bind_is e2
  show te σ H _
  refine h1.run σ G H xs fs d _ gh hi hv hd ok e1 fun v G1 H1 f1 d1 => ?_
  refine h2.run σ G1 H1 xs fs d2 _ f1.gh hi hv (f1.pres dd _ hd id) (fsOk_mono f1.g0 ok) e3 fun u G2 H2 f2 d2' => ?_
  exact ho.run G2 H2 v u d d2 z f2.gh (dp_mono f2.g0 _ _ d1) d2' e4 Q fun y G3 H3 f3 d3 => q y G3 H3 (gf0_trans (gf0_trans f1 f2) f3) d3
def xNot (m : List (Str × D) → Rs D) : List (Str × D) → Rs D := fun fs => (m fs).bind fun d => match d with
  | .bool b => .ok (.bool (!b))
  | _ => .stk
theorem sxv_notV {te : TE} {m : List (Str × D) → Rs D} (h : SXv K vs i a C dd te m) : SXv K vs i a C dd (tNotV te) (xNot m) := by
  refine ⟨fun σ G H xs fs z Q gh hi hv hd ok e q => ?_⟩
  obtain ⟨d, e1, e2⟩ := bind_is e
  refine h.run σ G H xs fs d _ gh hi hv hd ok e1 fun v G1 H1 f1 d1 => ?_
  split at e2
  · cases d1
    cases e2
    exact ⟨_, rfl, q _ G1 H1 f1 (.bl _)⟩
  · cases e2
end
def wipeO (en : En) : En := en.map fun
  | .own _ => .un
  | y => y
def tlAt (en : En) (i : Nat) : Option (List D) := match en[i]? with
  | some (.own (.tl ds)) => some ds
  | _ => none
theorem tlAt_some {en : En} {i : Nat} {ds : List D} (h : tlAt en i = some ds) : en[i]? = some (.own (.tl ds)) := by
  unfold tlAt at h
  split at h
  · cases h; assumption
  · cases h
/-- what the def makes of its other arguments and of what the lambda answers: M -/
def eAsk (M : List D → Rs D → Rs D) (j : Nat) (a : Am) (m : Em) : Em := fun en => (a en).bind fun p => match tlAt p.2 j with
  | none => .stk
  | some _ => (M p.1 ((m (wipeO p.2)).bind fun q => .ok q.1)).calm.bind fun d => .ok (d, p.2)
def PoR (K : PySem.W.Frag) (mg : Str → Option Value) (G H : Hp) (E : XK) (Q : VK) : Rs D → Prop
  | .ok d => ∀ v G' H', Gf (F0 G H) G' H' → Dp K G' v d → Q v H'
  | .err c fs => ∀ cls dx H', ErrAt K mg (F0 G H) c fs cls dx H' → E cls dx H'
  | .stk => False
def TTm (K : PySem.W.Frag) (mg : Str → Option Value) (M : List D → Rs D → Rs D) : List V → (XK → Hp → VK → Prop) → Hp → VK → Prop := fun vs Φ H Q =>
  ∃ G ds r z, Same G H ∧ DpAll K G vs ds ∧ M ds r = .ok z ∧ (∀ v G' H', Gf (F0 G H) G' H' → Dp K G' v z → Q v H') ∧ ∀ E' Q', PoR K mg G H E' Q' r → Φ E' H Q'
section
variable {K : PySem.W.Frag} {mg : Str → Option Value} {E : L2.St → XK} {F : Fm} {σ : L2.St} {G G' H H' : Hp} {en : En}
theorem gd_wipe (g : Gd K F G H σ en) : Gd K (F0 G H) G H σ (wipeO en) := by
  obtain ⟨om, s⟩ := g.sat
  have at_ : ∀ i : Nat, (wipeO en)[i]? = (en[i]?).map fun | SV.own _ => .un | y => y := fun i => List.getElem?_map
  refine ⟨gf0_refl g.gf.gh, by unfold wipeO; rw [List.length_map]; exact g.len, ⟨fun _ => 0, fun i sv e => ?_⟩, fun i mo hm e => ?_⟩
  · rw [at_] at e
    cases q : en[i]? with
    | none => rw [q] at e; cases e
    | some sv0 =>
      rw [q] at e
      have z := s i sv0 q
      cases sv0 with
      | un => cases e; trivial
      | dat d => cases e; exact z
      | own mo => cases e; trivial
  · rw [at_] at e
    cases q : en[i]? with
    | none => rw [q] at e; cases e
    | some sv0 => rw [q] at e; cases sv0 <;> cases e
theorem Gd.made {j : Nat} {ds : List D} {P c' : Addr} {q : Str} {ps : Array Value} {H1 : Hp} (g : Gd K F G H σ en) (e : en[j]? = some (.own (.tl ds))) (hq : (P, q) ∈ tbOf K) (nd : (tbA K).Nodup) (hP : H P = some (.tbl ps)) (md : Made H H1 P q ps c') :
    ∃ G1, Gd K F G1 H1 σ en ∧ Same G G1 := by
  rcases md with rfl | ⟨hc, qs, rfl, hqs, hcod⟩
  · exact ⟨G, g, Same.refl _⟩
  obtain ⟨om, s⟩ := g.sat
  obtain ⟨v, as, h1, h2, h3⟩ := s j _ e
  obtain ⟨p, vs, e1, e2, e3, e4, e5, e6⟩ := h2
  have hPt : P ∈ tbA K := List.mem_map.mpr ⟨_, hq, rfl⟩
  have hcP : c' ≠ P := fun z => by rw [z, hP] at hc; cases hc
  have hgc : G c' = none := Same.free g.gf.gh hc
  have sm : Same G (upd G c' (CodeO c' q)) := same_upd hgc
  have hpc : p ≠ c' := fun z => by rw [z, hc] at e4; cases e4
  have hpP : p ≠ P := fun z => by rw [z, hP] at e4; cases e4
  have same_q : ∀ r ∈ tbOf K, r.1 = P → r = (P, q) := fun r hr er => by
    have inj : ∀ {l : List (Addr × Str)}, (l.map (·.1)).Nodup → ∀ a ∈ l, ∀ b ∈ l, a.1 = b.1 → a = b := by
      intro l
      induction l with
      | nil => exact fun _ a ha => by cases ha
      | cons y l ih =>
        intro hn a ha b hb eab
        rw [List.map_cons, List.nodup_cons] at hn
        rcases List.mem_cons.mp ha with ha | ha
        · rcases List.mem_cons.mp hb with hb | hb
          · rw [ha, hb]
          · exact absurd (List.mem_map.mpr ⟨b, hb, by rw [← ha]; exact eab.symm⟩) hn.1
        · rcases List.mem_cons.mp hb with hb | hb
          · exact absurd (List.mem_map.mpr ⟨a, ha, by rw [← hb]; exact eab⟩) hn.1
          · exact ih hn.2 a ha b hb eab
    exact inj nd r hr (P, q) hq er
  have ge : ∀ a, a ≠ c' → upd G c' (CodeO c' q) a = G a := fun a h => upd_ne h
  have he : ∀ a, a ≠ c' → a ≠ P → upd (upd H P (.tbl qs)) c' (CodeO c' q) a = H a := fun a h h' => by rw [upd_ne h, upd_ne h']
  have tab : TabG K (upd G c' (CodeO c' q)) (upd (upd H P (.tbl qs)) c' (CodeO c' q)) := fun r hr => by
    obtain ⟨t0, ps', t1, t2, t3⟩ := e6 r hr
    have rc : r.1 ≠ c' := fun z => by rw [z, hc] at t1; cases t1
    by_cases er : r.1 = P
    · have := same_q r hr er
      subst this
      refine ⟨by rw [ge _ rc]; exact t0, qs, by rw [upd_ne rc]; exact upd_same, hqs, fun pos cv hcv => ?_⟩
      have : ps' = ps := by
        have z := t1.symm.trans hP
        cases z; rfl
      subst this
      rcases hcod pos cv hcv with z | z
      · obtain ⟨c0, k1, k2⟩ := t3 pos cv z
        exact ⟨c0, k1, sm _ _ k2⟩
      · exact ⟨c', z, upd_same⟩
    · refine ⟨by rw [ge _ rc]; exact t0, ps', by rw [he _ rc er]; exact t1, t2, fun pos cv hcv => ?_⟩
      obtain ⟨c0, k1, k2⟩ := t3 pos cv hcv
      exact ⟨c0, k1, sm _ _ k2⟩
  subst e1 e2
  have hset : en.set j (.own (.tl ds)) = en := by
    refine List.ext_getElem? fun n => ?_
    by_cases z : j = n
    · subst z
      rw [List.getElem?_set_self (List.getElem?_eq_some_iff.mp e).1, e]
    · rw [List.getElem?_set_ne z]
  have fin := g.callM (mo := .tl ds) (mo' := .tl ds) (G' := upd G c' (CodeO c' q)) (H' := upd (upd H P (.tbl qs)) c' (CodeO c' q)) rfl (fun h => nomatch h) e h1 (as := p :: tbA K) ⟨p, vs, rfl, rfl, e3, e4, e5, e6⟩
    ⟨sm, fun a x ex => ?_, fun a k1 k2 k3 => ?_, fun a o k1 k2 => ?_, fun a k1 => ?_⟩
    ⟨p, vs, rfl, rfl, by rw [ge _ hpc]; exact e3, by rw [he _ hpc hpP]; exact e4, dpa_mono sm _ _ e5, tab⟩
  · rw [hset] at fin
    exact ⟨_, fin, sm⟩
  · by_cases z : a = c'
    · subst z
      rw [upd_same] at ex ⊢
      exact ex
    · rw [ge _ z] at ex
      have : a ≠ P := fun w => by
        rw [w, (e6.live P hPt).2] at ex; cases ex
      rw [he _ z this]
      exact g.gf.gh a x ex
  · have : a ≠ c' := fun w => k1 (by rw [w]; exact hc)
    rw [ge _ this]; exact k2
  · have k1 : H a = some o := k1
    have z1 : a ≠ c' := fun w => by rw [w, hc] at k1; cases k1
    have z2 : a ≠ P := fun w => k2 (by rw [w]; exact List.mem_cons_of_mem _ hPt)
    rw [he _ z1 z2]; exact k1
  · have k1 : H a ≠ none := k1
    by_cases z1 : a = c'
    · rw [z1, upd_same]; exact fun w => by cases w
    · by_cases z2 : a = P
      · rw [upd_ne z1, z2, upd_same]; exact fun w => by cases w
      · rw [he _ z1 z2]; exact k1
theorem se_ask {M : List D → Rs D → Rs D} {j : Nat} {a : Am} {ta : TA} {t : XK → TE} {m : Em} {P : Addr} {q : Str} (hq : (P, q) ∈ tbOf K) (nd : (tbA K).Nodup) (h0 : SA K mg E ta a) (h1 : ∀ E : XK, SE K mg (fun _ => E) (t E) m) :
    SE K mg E (tLamL P q (TTm K mg M) ta t) (eAsk M j a m) := by
  refine ⟨fun F σ en G H Q g h => ?_⟩
  show ta σ H _
  refine sa_bind h0 g poE_err id h fun ds en1 vs G1 H1 p1 g1 s1 d1 => ?_
  cases e : tlAt en1 j with
  | none => simp only [e] at p1; exact p1.elim
  | some es =>
    simp only [e] at p1
    have ej := tlAt_some e
    obtain ⟨om, s⟩ := g1.sat
    obtain ⟨v, as, k1, ⟨p, ws, k2, k3, k4, k5, k6, k7⟩, k8⟩ := s j _ ej
    obtain ⟨t0, ps, t1, t2, t3⟩ := k7 (P, q) hq
    refine ⟨ps, t1, t2, fun pos cv hcv => ?_, fun H2 c' md hco => ?_⟩
    · obtain ⟨c0, l1, l2⟩ := t3 pos cv hcv
      exact ⟨c0, l1, g1.gf.gh _ _ l2⟩
    obtain ⟨G2, g2, sm⟩ := g1.made ej hq nd t1 md
    obtain ⟨z, ez, pz⟩ := calm_bind (P := PoE K mg (E σ) F σ G Q) id p1
    refine ⟨G2, ds, _, z, g2.gf.gh, dpa_mono sm _ _ d1, ez, fun u G' H' f du => pz u G' H' (g2.grow f) ((s1.trans sm).trans f.g0) du, fun E' Q' hp => ?_⟩
    refine (h1 E').run (F0 G2 H2) σ (wipeO en1) G2 H2 Q' (gd_wipe g2) ?_
    cases w : m (wipeO en1) with
    | stk => rw [w] at hp; exact hp
    | err c fs => rw [w] at hp; exact hp
    | ok y =>
      obtain ⟨d, en2⟩ := y
      rw [w] at hp
      exact fun u G' H' g' _ du => hp u G' H' g'.gf du
end
end Mir
end
section
set_option Elab.async false
set_option linter.all false
set_option maxRecDepth 100000
set_option maxHeartbeats 4000000
namespace Mir
open PySem PySem.Spec PyProof.Rows L2
open LamX (CodeO TabB LamS lamEnv lamCx)
section
variable {K : PySem.W.Frag} {mg : Str → Option Value} {F : Fm} {σ : L2.St} {G G' H H' : Hp} {en : En}
/-- what was raised is taken by a clause -/
theorem wAll_err {k : Nat} {js : List Nat} {vs : List (Nat × Str)} {l : List HdT} {msv : List HdM} {x : Str} {fs : List (Str × D)} {cls : Value} {dx : Option Addr} {d : D} {D0 : Ends} {Wout : WX}
    (hm : HmOkV K mg k js vs l msv) (hk : k < σ.length) (hv : HoldsS σ vs) (hjs : ∀ p ∈ vs, p.1 ∈ js) (er : ErrAt K mg F x fs cls dx H') (ed : pickH msv x fs = .ok d)
    (fin : ∀ G', Gf F G' H' → ∀ v G2 H2, Gf (F0 G' H') G2 H2 → Dp K G2 v d → D0.rt v H2) : wAll K Wout D0 l cls dx σ H' := by
  obtain ⟨C, dd, xs, G', rfl, hC, rfl, gf', h0, hg, hd, ok⟩ := er
  have fin := fin G' gf'
  induction hm with
  | nil => cases ed
  | @cons c i ts l cs hm ms hi hij hcs hx r ih =>
    unfold pickH at ed
    by_cases q1 : (x, true) ∈ cs
    · rw [if_pos q1] at ed
      refine ⟨true, hcs x true C q1 hC, fun _ a ha => ?_, fun z => Bool.noConfusion z⟩
      have hs : (σ.set i (some (.ref a)))[i]? = some (some (.ref a)) := by rw [List.getElem?_set_self (by omega)]
      have hv' : HoldsS (σ.set i (some (.ref a))) vs := fun p hp => by
        have : i ≠ p.1 := fun z => hij (by rw [z]; exact hjs p hp)
        rw [List.getElem?_set_ne this]
        exact hv p hp
      exact (hx a C dd ⟨x, q1, hC⟩).run _ G' H' xs fs d _ gf'.gh hs hv' hd ok ed fin
    · rw [if_neg q1] at ed
      by_cases q2 : (x, false) ∈ cs
      · rw [if_pos q2] at ed
        exact ⟨false, hcs x false C q2 hC, fun z => Bool.noConfusion z, fun _ => ih ed⟩
      · rw [if_neg q2] at ed
        cases ed
end
def mAskW (ms : List (Nat × Str) → List HdM) : List D → Rs D → Rs D
  | [.str w], .ok _ => .ok (.bool false)
  | [.str w], .err c fs => pickH (ms [(0, w)]) c fs
  | _, _ => .stk
section
variable {X : Cx} {Ng : List Str} {qg : Str} {sg : Scope} {g : Addr} {cdg : Value} {a : Str} {hd0 : ExceptHandler} {hds : List ExceptHandler} {l : List HdT} {q : Str} {p1 p2 p3 p4 p5 p6 : Pos} {jc : Nat}
theorem asks_word {ms : List (Nat × Str) → List HdM} {k : Nat} (nd : Ng.Nodup) (hN : Ng.length = k + 1) (hk : 2 ≤ k)
    (hh : ∀ s H Eg, (askCx X Ng qg sg g cdg s H Eg).A.guards = some [] → Room 1 (askCx X Ng qg sg g cdg s H Eg).A → HdsAN (askCx X Ng qg sg g cdg s H Eg) (hd0 :: hds) l) (hm : ∀ vs, HmOkV X.K X.mg k [0] vs l (ms vs)) :
    AsksN X Ng qg sg g cdg [.Try [.Expr (.Call (.Name a p1) [] [] p2) p3] (hd0 :: hds) [] [] p4, .Return (some (.Constant (.bool false) jc p5)) p6] a 1 q (TTm X.K X.mg (mAskW ms)) := by
  intro f c' s H vs Q Eg Φ act hgd hr hc hlv ht
  obtain ⟨G, ds, r, z, gh, hd, hM, hq, hΦ⟩ := ht
  refine ⟨_, pss_cons (ps_try_allN (l := l) (Wout := fun cls d _ H => Eg cls d H) rfl rfl nd (L2N.takes_of rfl rfl rfl rfl)
    (fun W pn xe tk _ => pss_one (ps_expr (act pn xe (fun σ cls d H => W cls d σ H) p1 p2 (L2N.passAt tk)))) (hh s H Eg hgd hr)) (pss_one (ps_ret pe_bl)), ?_⟩
  have h1 : (L2.start Ng (vs ++ [.ref f]))[1]? = some (some (.ref f)) := start_get (by rw [List.getElem?_append_right (by omega), hlv]; rfl)
  refine ⟨h1, hc, hΦ _ _ ?_⟩
  unfold mAskW at hM
  split at hM
  · cases hM
    exact fun v G' H' f dv => hq (.bl false) G' H' f (.bl false)
  · rename_i w c fs
    cases hd with
    | cons dw dt =>
      cases dt
      cases dw
      intro cls dx H' er
      refine wAll_err (hm [(0, w)]) ?_ (fun p hp => ?_) (fun p hp => ?_) er hM fun G' gf' v G2 H2 f2 d2 => hq v G2 H2 (gf'.comp f2 rfl rfl fun _ z => z.elim) d2
      · unfold L2.start
        rw [List.length_append, List.length_map, List.length_replicate]
        show k < 2 + (Ng.length - 2)
        omega
      · rw [List.mem_singleton.mp hp]
        exact start_get rfl
      · rw [List.mem_singleton.mp hp]
        exact List.mem_singleton_self _
  · cases hM
end
section
variable {P : Program} {w : World} {K : PySem.W.Frag} {mg : Str → Option Value} {base : Heap} {x qual : Str} {params : Arguments} {body : List Stmt} {scope : Scope} {dvs : List V} {kws : List (Str × V)} {f : Addr} {fd : FuncData} {N ps : List Str} {k : Nat}
/-- the code object is the one that the module's table tells -/
def CodeIs (K : PySem.W.Frag) (mg : Str → Option Value) (x : Str) (f : Addr) (cdv : Value) : Prop := ∀ c P, PySem.W.tabIn K x = some (c, P) → mg x = some (.ref f) → cdv = .ref c
theorem codeIs_of {oc : Value} {od : Option Addr} {dV kV doc pm cdv ct : Value} {an : Option Addr} {osl : Array (Option Value)} (KX : K.In base) (hns : base.Ns mainGlobals mg)
    (lk : K.lookup f = some ⟨oc, od, .func (PySem.W.fnOf x qual params body scope dV kV doc pm an cdv ct), osl⟩) : CodeIs K mg x f cdv := fun c P ht hm => by
  unfold PySem.W.tabIn at ht
  split at ht
  · rename_i f2 hf
    have e1 := PySem.W.mg_of KX hns hf
    rw [hm] at e1
    cases e1
    rw [lk] at ht
    dsimp only at ht
    split at ht
    · rename_i c2 e2
      split at ht
      · split at ht
        · cases ht; rfl
        · cases ht
      · cases ht
    · cases ht
  · cases ht
/-- as fnG_of, the code object told -/
theorem fnG_ofC {C : CXT} {sp : Sp} (F : FunD K x qual params body scope dvs kws f fd) (S : FnScope N ps scope) (len : ∀ vs H Q E, sp vs H Q E → vs.length = ps.length)
    (hbody : ∀ (cdv : Value) (A : Around) (outer : List Env) (s : Shared) (H : Hp) (vs : List V) (Q : VK) (E : XK), CodeIs K mg x f cdv → (A.deeper (envOfC qual scope s.heap.objs.size f cdv)).guards = some [] → Room k (A.deeper (envOfC qual scope s.heap.objs.size f cdv)) → sp vs H Q E →
      ∃ t, PSs (cxOf C P w K mg base N qual scope f cdv A outer s H E) body t ∧ t { nx := fun _ H' => Q .non H', rt := Q } (L2.start N vs) H) : FnG P w K mg base C (k + 1) f fd ps sp := by
  obtain ⟨oc, od, dV, kV, doc, pm, an, cdv, ct, osl, rfl, lk, hcd, _, _⟩ := F.ex
  refine ⟨len, fun A outer s H args us vs Q E hg hr e0 hb r hsp => ?_⟩
  refine LamX.run_ofS lk hcd S hr e0 hb r (len _ _ _ _ hsp) fun hr' => ?_
  exact hbody cdv A outer s H vs Q E (codeIs_of e0.mod.kin e0.mod.glob lk) hg hr' hsp
theorem fnD_okC [CxK] {m : Sm} (F : FunD K x qual params body scope [] [] f fd) (S : FnScope N ps scope) (hn : ps.length ≤ N.length)
    (hb : ∀ (cdv : Value) (A : Around) (outer : List Env) (s : Shared) (H : Hp) (E : XK), CodeIs K mg x f cdv → (A.deeper (envOfC qual scope s.heap.objs.size f cdv)).guards = some [] → Room k (A.deeper (envOfC qual scope s.heap.objs.size f cdv)) →
      ∃ t, PSs (cxOf (CxK.cx P w) P w K mg base N qual scope f cdv A outer s H E) body t ∧ SS K mg E t m) :
    FnG P w K mg base (CxK.cx P w) (k + 1) f fd ps (spD K mg (fnD N.length ps.length m)) := by
  have len : ∀ vs H Q E, spD K mg (fnD N.length ps.length m) vs H Q E → vs.length = ps.length := by
    rintro vs H Q E ⟨G, p, vr, ds, mo, as, rfl, gh, hm, ow, hd, h⟩
    by_cases q : ds.length + 1 = ps.length
    · rw [List.length_cons, dpa_len hd, q]
    · have : fnD N.length ps.length m mo ds = .stk := if_neg q
      rw [this] at h
      exact h.elim
  refine fnG_ofC F S len fun cdv A outer s H vs Q E hci hgd hr hsp => ?_
  obtain ⟨t, h1, h2⟩ := hb cdv A outer s H E hci hgd hr
  refine ⟨t, h1, ?_⟩
  have hlen := len vs H Q E hsp
  obtain ⟨G, p, vr, ds, mo, as, rfl, gh, hm, ow, hd, h⟩ := hsp
  refine h2.run (FS G H p as) _ (enOfS N.length mo ds) G H _ (gd_startD gh ow hd) ?_
  have hq : ds.length + 1 = ps.length := by rw [← dpa_len hd]; exact hlen
  have e1 : fnD N.length ps.length m mo ds = (endOf (m (enOfS N.length mo ds))).bind fun p => match pinAt p.2 0 with
    | some mo' => .ok (p.1, mo')
    | none => .stk := if_pos hq
  rw [e1] at h
  have fin : ∀ {d : D} {en' : En}, (match (match pinAt en' 0 with
      | some mo' => (.ok (d, mo') : Rs (D × MO))
      | none => .stk) with
    | .ok (d, mo') => ∀ v G' H', Gf (FS G H p as) G' H' → Own K G' H' p mo' as → mo'.pin1 = false → Dp K G' v d → Q v H'
    | _ => False) → ∀ v σ' G' H', Gd K (FS G H p as) G' H' σ' en' → Dp K G' v d → Q v H' := fun {d en'} h v σ' G' H' g' dv => by
    cases q0 : pinAt en' 0 with
    | none => rw [q0] at h; exact h.elim
    | some mo' =>
      rw [q0] at h
      obtain ⟨z1, z2⟩ := pinAt_some q0
      exact h v G' H' g'.gf (g'.pin 0 mo' (MO.pinS_0 z2) z1).2 (pinAt_1 q0) dv
  cases q : m (enOfS N.length mo ds) with
  | stk => rw [q] at h; exact h.elim
  | err c fs => rw [q] at h; exact h.elim
  | ok z =>
    obtain ⟨fl, en'⟩ := z
    rw [q] at h
    cases fl with
    | nx => exact fun σ' G' H' g' _ => fin h .non σ' G' H' g' .non
    | bk => exact h.elim
    | ct => exact h.elim
    | rt d => exact fun v σ' G' H' g' _ dv => fin h v σ' G' H' g' dv
def enOfL (n : Nat) (ds : List D) : En := .own (.scr ds) :: List.replicate (n - 1) .un
def fnL (n : Nat) (m : Sm) : List D → Rs D
  | [.list ds] => (endOf (m (enOfL n ds))).bind fun p => .ok p.1
  | _ => .stk
def spL (K : PySem.W.Frag) (mg : Str → Option Value) (m : List D → Rs D) : Sp := fun vs H Q E => ∃ G p ds d, vs = [p] ∧ Same G H ∧ Dp K G p (.list ds) ∧ TabG K G H ∧ m [.list ds] = .ok d ∧ ∀ v G' H', Dp K G' v d → Q v H'
theorem fnL_ok [CxK] {m : Sm} (F : FunD K x qual params body scope [] [] f fd) (S : FnScope N ps scope) (hps : ps.length = 1) (hn : 1 ≤ N.length)
    (hb : ∀ (cdv : Value) (A : Around) (outer : List Env) (s : Shared) (H : Hp) (E : XK), CodeIs K mg x f cdv → (A.deeper (envOfC qual scope s.heap.objs.size f cdv)).guards = some [] → Room k (A.deeper (envOfC qual scope s.heap.objs.size f cdv)) →
      ∃ t, PSs (cxOf (CxK.cx P w) P w K mg base N qual scope f cdv A outer s H E) body t ∧ SS K mg E t m) :
    FnG P w K mg base (CxK.cx P w) (k + 1) f fd ps (spL K mg (fnL N.length m)) := by
  refine fnG_ofC F S (fun vs H Q E ⟨_, _, _, _, e, _⟩ => by rw [e, hps]; rfl) fun cdv A outer s H vs Q E hci hgd hr hsp => ?_
  obtain ⟨t, h1, h2⟩ := hb cdv A outer s H E hci hgd hr
  refine ⟨t, h1, ?_⟩
  obtain ⟨G, p, ds, d, rfl, gh, hd, ht, hm, hq⟩ := hsp
  have g : Gd K (FS G H p (tbA K)) G H (L2.start N [p]) (enOfL N.length ds) := by
    refine ⟨Gf.refl G H _ _ _ gh, ?_, ⟨fun _ => 0, fun i sv e => ?_⟩, fun i0 m1 h1 e => ?_⟩
    · unfold enOfL L2.start
      simp only [List.length_append, List.length_map, List.length_replicate, List.length_cons, List.length_nil]
      omega
    · cases i with
      | zero =>
        have e' : some (SV.own (.scr ds)) = some sv := e
        cases e'
        exact ⟨p, tbA K, rfl, ⟨rfl, hd, ht⟩, fun a ha => ⟨rfl, .inl ha⟩⟩
      | succ i =>
        have e' : (List.replicate (N.length - 1) SV.un)[i]? = some sv := e
        rw [List.eq_of_mem_replicate (List.mem_of_getElem? e')]
        trivial
    · cases i0 with
      | zero =>
        have e' : some (SV.own (.scr ds)) = some (.own m1) := e
        cases e'
        rcases h1 with ⟨_, h1⟩ | ⟨h1, _⟩
        · cases h1
        · cases h1
      | succ i =>
        have e' : (List.replicate (N.length - 1) SV.un)[i]? = some (.own m1) := e
        cases List.eq_of_mem_replicate (List.mem_of_getElem? e')
  refine h2.run (FS G H p (tbA K)) _ (enOfL N.length ds) G H _ g ?_
  have e1 : fnL N.length m [.list ds] = (endOf (m (enOfL N.length ds))).bind fun p => .ok p.1 := rfl
  rw [e1] at hm
  cases q : m (enOfL N.length ds) with
  | stk => rw [q] at hm; cases hm
  | err c fs => rw [q] at hm; cases hm
  | ok z =>
    obtain ⟨fl, en'⟩ := z
    rw [q] at hm
    cases fl with
    | nx => cases hm; exact fun σ' G' H' g' _ => hq .non G' H' .non
    | bk => cases hm
    | ct => cases hm
    | rt d => cases hm; exact fun v σ' G' H' g' _ dv => hq v G' H' dv
end
section
variable {K : PySem.W.Frag} {mg : Str → Option Value} {F : Fm} {σ : L2.St} {G G' H H' : Hp} {en : En}
def eScr (i : Nat) : Em := fun en => match en[i]? with
  | some (.own (.scr ds)) => .ok (.list ds, en)
  | _ => .stk
theorem se_scr {E : L2.St → XK} {i : Nat} : SE K mg E (tVar i) (eScr i) := by
  refine ⟨fun F σ en G H Q g h => ?_⟩
  unfold eScr at h
  split at h
  · rename_i ds e
    obtain ⟨om, s⟩ := g.sat
    obtain ⟨v, as, h1, ⟨_, h2, _⟩, _⟩ := s i _ e
    exact ⟨v, h1, h v G H g (Same.refl _) h2⟩
  · exact h.elim
theorem Gd.setTl {i : Nat} {p : Addr} {vs : List V} {ds xs : List D} (g : Gd K F G H σ en) (hi0 : i ≠ 0) (e0 : en[0]? = some (.own (.scr xs))) (hg : G p = none) (hh : H p = some (.lst vs)) (hd : DpAll K G vs ds) (h0 : F.Z p ∨ F.H0 p = none) (fr : Free K G H σ en p) :
    Gd K F G H (σ.set i (some (.ref p))) ((en.set 0 (.dat (.list xs))).set i (.own (.tl ds))) := by
  obtain ⟨om, s⟩ := g.sat
  obtain ⟨v0, as0, k1, ⟨rfl, k2, k3⟩, k4⟩ := s 0 _ e0
  have hpt : p ∉ tbA K := k3.not hh
  have l0 : 0 < en.length := (List.getElem?_eq_some_iff.mp e0).1
  refine ⟨g.gf, by rw [List.length_set, List.length_set, List.length_set, g.len], ⟨fun a => if a = p ∨ a ∈ tbA K then i else om a, fun j sv e => ?_⟩, fun i0 mo hm e => ?_⟩
  · by_cases q : i = j
    · subst q
      by_cases hi : i < en.length
      · rw [List.getElem?_set_self (by rw [List.length_set]; exact hi)] at e
        cases e
        refine ⟨.ref p, p :: tbA K, by rw [List.getElem?_set_self (by rw [← g.len]; exact hi)], ⟨p, vs, rfl, rfl, hg, hh, hd, k3⟩, fun a ha => ?_⟩
        rcases List.mem_cons.mp ha with rfl | m
        · exact ⟨if_pos (.inl rfl), h0⟩
        · exact ⟨if_pos (.inr m), (k4 a m).2⟩
      · rw [List.getElem?_eq_none (by rw [List.length_set, List.length_set]; omega)] at e
        cases e
    · rw [List.getElem?_set_ne q] at e ⊢
      by_cases q0 : 0 = j
      · subst q0
        rw [List.getElem?_set_self l0] at e
        cases e
        exact ⟨v0, k1, k2⟩
      · rw [List.getElem?_set_ne q0] at e
        have z := s j sv e
        cases sv with
        | un => trivial
        | dat d => exact z
        | own mo =>
          obtain ⟨v, as, h1, h2, h3⟩ := z
          refine ⟨v, as, h1, h2, fun a ha => ⟨?_, (h3 a ha).2⟩⟩
          have n1 : a ≠ p := fun z => fr _ _ _ _ e h1 h2 (by rw [← z]; exact ha)
          have n2 : a ∉ tbA K := fun z => q0 ((k4 a z).1.symm.trans (h3 a ha).1)
          show (if a = p ∨ a ∈ tbA K then i else om a) = j
          rw [if_neg (fun z => z.elim n1 n2)]
          exact (h3 a ha).1
  · have q := pin_ne hi0 rfl hm e
    rw [List.getElem?_set_ne q] at e ⊢
    by_cases q0 : 0 = i0
    · subst q0
      rw [List.getElem?_set_self l0] at e
      cases e
    · rw [List.getElem?_set_ne q0] at e
      exact g.pin i0 mo hm e
def scrAt (en : En) : Option (List D) := match (en[(0 : Nat)]? : Option SV) with
  | some (.own (.scr xs)) => some xs
  | _ => none
theorem scrAt_some {xs : List D} (h : scrAt en = some xs) : en[0]? = some (.own (.scr xs)) := by
  unfold scrAt at h
  split at h
  · cases h; assumption
  · cases h
def mAsgT (i : Nat) (m : Am) : Sm := fun en => if i = 0 then .stk else (m en).bind fun p => match scrAt p.2 with
  | some xs => .ok (.nx, (p.2.set 0 (.dat (.list xs))).set i (.own (.tl p.1)))
  | none => .stk
theorem ss_asgT {E : XK} {i : Nat} {te : TE} {m : Am} (h1 : SL K mg (fun _ => E) te m) : SS K mg E (tAsg te (gName i)) (mAsgT i m) := by
  refine ⟨fun F σ en G H D g h => ?_⟩
  unfold mAsgT at h
  split at h
  · exact h.elim
  rename_i hi
  show te σ H _
  refine sl_bind h1 g poS_err id h fun ds en1 p vs G1 H1 p1 g1 s1 hg hh hd h0 fr => ?_
  cases e : scrAt en1 with
  | none => rw [e] at p1; exact p1.elim
  | some xs =>
    rw [e] at p1
    exact p1 _ G1 H1 (g1.setTl hi (scrAt_some e) hg hh hd (.inr h0) fr) s1
end
end Mir
end
section
set_option Elab.async false
set_option linter.all false
set_option maxRecDepth 100000
set_option maxHeartbeats 4000000
namespace Mir
open PySem PySem.Spec PyProof.Rows L2
open LamX (CodeO TabB LamS lamEnv lamCx)
/-- what is known of the tables behind the top -/
def TabsH (K : PySem.W.Frag) (h : Heap) : Prop := ∀ x ∈ lamNames, ∀ c Q, PySem.W.tabIn K x = some (c, Q) → PySem.W.CodeHd h c Q ∧ h.get? Q = some { cls := .none, data := .fields #[] }
theorem tbA_mem {K : PySem.W.Frag} {b : Addr} (h : b ∈ tbA K) : ∃ x ∈ lamNames, ∃ c, PySem.W.tabIn K x = some (c, b) := by
  obtain ⟨p, hp, rfl⟩ := List.mem_map.mp h
  obtain ⟨x, hx, e⟩ := List.mem_filterMap.mp hp
  cases q : PySem.W.tabIn K x with
  | none => rw [q] at e; cases e
  | some cp =>
    rw [q] at e
    cases e
    exact ⟨x, hx, cp.1, q⟩
theorem law_callGT {P : Program} {w : World} {K : PySem.W.Frag} {mg mb : Str → Option Value} {C : CXT} {k : Nat} {fa a : Addr} {fd : FuncData} {x : Str} {sp : Sp} {s1 : Shared} {vs : List Value} {ns : List Int}
    (KX : K.In s1.heap) (hns : s1.heap.Ns mainGlobals mg) (hb : s1.heap.Ns builtinsNs mb) (hbb : ∀ x : Str, x ≠ "__name__" → mb x = bootBuiltins x) (hlim : s1.heap.NoLimit) (hg : s1.gens = #[])
    (T : TabsH K s1.heap) (nT : ∀ b ∈ tbA K, K.lookup b = none) (nd : (tbA K).Nodup)
    (hbm : ∃ (bm : Addr) (ob : Obj), mg "__builtins__" = some (.ref bm) ∧ bm ≠ builtinsNs ∧ s1.heap.get? bm = some ob ∧ ob.cls = .type "module" ∧ ob.dict = some builtinsNs ∧ ob.data = .plain)
    (ha : s1.heap.get? a = some { cls := .type "list", data := .seq vs.toArray }) (hi : IntsAre vs ns) (hl : ns.length ≤ sizeLine) (hr : Room k callerA)
    (F : ∀ base : Heap, K.In base → base.Ns mainGlobals mg → LamB K mg base → FnG P w K mg base C k fa fd [x] sp) (hbind : ∀ (s : Shared) (u : Value), BindsTo s fd ⟨[u], []⟩ [(x, u)])
    (hsp : ∀ H : Hp, (∀ b ∈ tbA K, H b = some (.tbl #[])) → SqL K H a (ns.map V.int) → sp [.ref a] H (fun v _ => v = .bl true) fun _ _ _ => False)
    (hC : ∀ H e s', C [] H s1 (fun _ _ _ => False) e s' → False) :
    codeAny (model P w) callerA (.call (.ref fa) ⟨[.ref a], []⟩) (fun r s' => r = .ok (.ret (.bool true)) ∧ OldK s1.heap s'.heap ∧ s'.os = s1.os ∧ AllBare s'.gens) s1 := by
  have rv := vals_ints hi
  have hsz : vs.toArray.size ≤ sizeLine := by
    rw [List.size_toArray, hi.length]; exact hl
  have tabs : ∀ b ∈ tbA K, s1.heap.get? b = some { cls := .none, data := .fields #[] } := fun b h => by
    obtain ⟨y, hy, c, e⟩ := tbA_mem h
    exact (T y hy c b e).2
  have aT : a ∉ tbA K := fun z => by
    have q := tabs a z
    rw [ha] at q
    exact nomatch (show Data.seq vs.toArray _ = Data.fields #[] from congrArg Obj.data (Option.some.inj q))
  let o0 : Obj := { cls := .type "list", data := .seq vs.toArray }
  obtain ⟨H, hT, hS, hA, hK, hok⟩ : ∃ H : Hp, (∀ b ∈ tbA K, H b = some (.tbl #[])) ∧ SqL K H a (ns.map V.int) ∧
      (∀ b u, b ∉ tbA K → H b = some u → b = a ∧ u = .frz o0 (.lst (ns.map V.int))) ∧ (H a ≠ none → K.lookup a = none) ∧ HOk P w H s1.heap := by
    cases hk : K.lookup a with
    | some o =>
      have e' : o = o0 := Option.some.inj ((KX a o hk).symm.trans ha)
      subst e'
      refine ⟨fun b => if b ∈ tbA K then some (.tbl #[]) else none, fun b h => if_pos h, Or.inr ⟨_, vs.toArray, _, hk, rfl, rfl, rfl, hsz, by simpa using rv⟩, fun b u n z => ?_, fun z => absurd (if_neg aT) z, fun b u z => ?_⟩
      · have z' := (if_neg n).symm.trans z
        cases z'
      · by_cases n : b ∈ tbA K
        · have z' := (if_pos n).symm.trans z
          cases z'
          exact tabs b n
        · have z' := (if_neg n).symm.trans z
          cases z'
    | none =>
      let H : Hp := fun b => if b ∈ tbA K then some (.tbl #[]) else if b = a then some (.frz o0 (.lst (ns.map V.int))) else none
      have hHa : H a = some (.frz o0 (.lst (ns.map V.int))) := (if_neg aT).trans (if_pos rfl)
      have only : ∀ b u, b ∉ tbA K → H b = some u → b = a ∧ u = .frz o0 (.lst (ns.map V.int)) := fun b u n z => by
        have z1 : (if b = a then some (HO.frz o0 (.lst (ns.map V.int))) else none) = some u := (if_neg n).symm.trans z
        by_cases q : b = a
        · rw [if_pos q] at z1
          exact ⟨q, (Option.some.inj z1).symm⟩
        · rw [if_neg q] at z1
          cases z1
      refine ⟨H, fun b h => if_pos h, Or.inl (Or.inr ⟨_, hHa⟩), only, fun _ => rfl, fun b u z => ?_⟩
      by_cases n : b ∈ tbA K
      · have z' := (if_pos n).symm.trans z
        cases z'
        exact tabs b n
      · obtain ⟨rfl, rfl⟩ := only b u n z
        exact ⟨ha, by rw [List.length_map]; exact hl, vs, _, rv, ha⟩
  have free : ∀ b, b ≠ a → b ∉ tbA K → H b = none := fun b h1 h2 => by
    cases q : H b with
    | none => rfl
    | some u => exact absurd (hA b u h2 q).1 h1
  have down : ∀ b o, s1.heap.get? b = some o → b ≠ a → b ∉ tbA K → (hidT s1.heap H).get? b = some o := fun b o e h1 h2 => hidT_get e (free b h1 h2)
  -- what is no list and no bare row of fields stays in sight
  have seen : ∀ b o, s1.heap.get? b = some o → (∀ n, o.data ≠ .seq vs.toArray n) → o.data ≠ .fields #[] → (hidT s1.heap H).get? b = some o := fun b o e h1 h2 => down b o e
    (fun z => by rw [z, ha] at e; cases e; exact h1 _ rfl) (fun z => by rw [tabs b z] at e; cases e; exact h2 rfl)
  have nsD : ∀ {b : Addr} {m : Str → Option Value}, s1.heap.Ns b m → (hidT s1.heap H).Ns b m := by
    rintro b m ⟨o, es, ep, e, d, r⟩
    refine ⟨o, es, ep, seen b o e (fun n z => ?_) (fun z => ?_), d, r⟩
    · rw [d] at z; cases z
    · rw [d] at z; cases z
  have kD : K.In (hidT s1.heap H) := fun b o e => by
    have nt : b ∉ tbA K := fun z => by rw [nT b z] at e; cases e
    by_cases q : b = a
    · subst q
      refine hidT_get (KX b o e) ?_
      cases q : H b with
      | none => rfl
      | some u =>
        have z := hK (by rw [q]; exact fun z => nomatch z)
        rw [z] at e
        cases e
    · exact down b o (KX b o e) q nt
  obtain ⟨mc, l1, l2⟩ := hlim
  have LB : LamB K mg (hidT s1.heap H) := ⟨fun y hy c Q hc => by
    obtain ⟨hcd, hQ⟩ := T y hy c Q hc
    refine ⟨?_, ?_, fun z => ?_⟩
    · obtain ⟨o, us, file, tf, flags, tg, inF, text, tt, f1, f2, f3, f4, f5⟩ := hcd
      refine ⟨o, us, file, tf, flags, tg, inF, text, tt, seen c o f1 (fun n z => ?_) (fun z => ?_), f2, f3, f4, f5⟩
      · rw [f3] at z; cases z
      · rw [f3] at z
        cases z
        simp at f4
    · obtain ⟨bm, ob, b1, b2, b3, b4, b5, b6⟩ := hbm
      have nG : bm ≠ mainGlobals := fun z => by
        obtain ⟨o, es, ep, e, d, _⟩ := hns
        rw [z, e] at b3
        cases b3
        rw [d] at b6
        cases b6
      have nQ : bm ≠ Q := fun z => by
        rw [z, hQ] at b3
        cases b3
        cases b6
      refine ⟨bm, ob, b1, b2, nG, nQ, seen bm ob b3 (fun n z => ?_) (fun z => ?_), b4, b5, b6⟩
      · rw [b6] at z; cases z
      · rw [b6] at z; cases z
    · obtain ⟨o, es, ep, e, d, _⟩ := hns
      rw [z, hQ] at e
      cases e
      exact (nomatch (show Data.fields #[] = Data.dict es ep from d)), nd⟩
  have e0 : Env0 P w K mg (hidT s1.heap H) callerA [] s1 H := {
    frames := rfl
    mod := ⟨kD, nsD hns, ⟨mb, nsD hb, hbb⟩, ⟨mc, nsD l1, l2⟩⟩
    bs := fun b o e => of_hidT e
    bsz := Nat.le_of_eq (hidT_size _ _)
    funs := trivial
    frf := fun b hb => absurd (show b ∈ ([] : List Addr) from hb) (by simp)
    hok := hok
    bare := .of_eq hg }
  refine codeAny_mono ((F _ kD (nsD hns) LB).go callerA [] s1 H ⟨[.ref a], []⟩ [.ref a] [.ref a] _ _ rfl hr e0 (hbind s1 (.ref a)) (.cons rfl .nil) (hsp H hT hS)) ?_
  intro rs s' hq
  cases rs with
  | error ev => exact (hC H ev s' hq).elim
  | ok fl =>
    cases fl with
    | next => exact (show False from hq).elim
    | brk => exact (show False from hq).elim
    | cont => exact (show False from hq).elim
    | ret u =>
      obtain ⟨v, H', os, bare, un, hok', rr, q⟩ := hq
      have q' : v = .bl true := q
      subst q'
      have ru : u = Value.bool true := rr
      subst ru
      have kept : ∀ b o, b ∉ tbA K → s1.heap.get? b = some o → s'.heap.get? b = some o := fun b o nt e => by
        cases qb : H b with
        | none => exact un.keep b o e qb (fun z => absurd (show b ∈ ([] : List Addr) from z) (by simp)) (by simp)
        | some hu =>
          obtain ⟨rfl, rfl⟩ := hA b hu nt qb
          have z2 := hok' b _ (un.frzs b _ _ qb)
          rw [ha] at e
          cases e
          exact z2.1
      have grown : ∀ b ∈ tbA K, ∃ more : Array Value, s'.heap.get? b = some { cls := .none, data := .fields more } := fun b h => by
        obtain ⟨more, z⟩ := un.tbls b #[] (hT b h)
        exact ⟨_, hok' b _ z⟩
      refine ⟨rfl, ⟨fun b o e => ?_, fun b o e => ?_⟩, os, bare⟩
      · by_cases h : b ∈ tbA K
        · obtain ⟨y, hy, c, ey⟩ := tbA_mem h
          obtain ⟨more, hm⟩ := grown b h
          rw [tabs b h] at e
          cases e
          have ct := ((T y hy c b ey).1.tab (tabs b h)).isCodeTable
          exact .inr (.inl ⟨ct, rfl, #[], more, rfl, by rw [Array.empty_append]; exact hm⟩)
        · exact .inl (kept b o h e)
      · by_cases h : b ∈ tbA K
        · obtain ⟨more, hm⟩ := grown b h
          exact ⟨_, hm⟩
        · exact ⟨o, kept b o h e⟩
/-- the law's promise at its start -/
theorem spL_start {K : PySem.W.Frag} {mg : Str → Option Value} {H : Hp} {a : Addr} {ns : List Int} {m : List D → Rs D} {E : XK} (hm : m [.list (ns.map PyData.int)] = .ok (.bool true)) (hT : ∀ b ∈ tbA K, H b = some (.tbl #[])) (hS : SqL K H a (ns.map V.int)) :
    spL K mg m [.ref a] H (fun v _ => v = .bl true) E := by
  let G : Hp := fun b => if b ∈ tbA K then none else H b
  have sm : Same G H := fun b o e => by
    by_cases q : b ∈ tbA K
    · have e' := (if_pos q).symm.trans e
      cases e'
    · exact (if_neg q).symm.trans e
  have hS' : SqL K G a (ns.map V.int) := by
    rcases hS with (h | ⟨o, h⟩) | h
    · have n : a ∉ tbA K := fun z => by rw [hT a z] at h; cases h
      exact .inl (.inl ((if_neg n).trans h))
    · have n : a ∉ tbA K := fun z => by rw [hT a z] at h; cases h
      exact .inl (.inr ⟨o, (if_neg n).trans h⟩)
    · exact .inr h
  refine ⟨G, .ref a, ns.map PyData.int, .bool true, rfl, sm, .lst hS' (dpa_of_ints ns), fun p hp => ?_, hm, fun v G' H' h => by cases h; rfl⟩
  have hp' : p.1 ∈ tbA K := List.mem_map_of_mem hp
  refine ⟨if_pos hp', #[], hT _ hp', True.intro, fun pos cv hc => ?_⟩
  have z : codeAmong pos [] = some cv := hc
  simp [codeAmong] at z
theorem walk_ofGT [CxK] {l : PySem.W.OpenLaw} {n k : Nat} {q : Program} {loose : List Str} {XP : (Str → Option Value) → Heap → Prop} {YP : World → Heap → Prop} {d : DefRec} {x : Str}
    (hn : l.most = some n) (hn2 : n ≤ sizeLine) (hdf : d.params.defaults = []) (hr : Room k callerA)
    (F : ∀ (w : World) (mg : Str → Option Value) (fa : Addr) (h : Heap), YP w h → h.Ns mainGlobals mg → mg d.name = some (.ref fa) →
      ∃ (K : PySem.W.Frag) (fd : FuncData) (sp : Sp), K.In h ∧ (∀ y ∈ lamNames, PySem.W.tabIn K y = none ∨ ∃ dr, (recsOf q).find? (fun e => e.name == y) = some dr) ∧ (∀ b ∈ tbA K, K.lookup b = none) ∧ (tbA K).Nodup ∧
        (∀ (s : Shared) (u : Value), BindsTo s fd ⟨[u], []⟩ [(x, u)]) ∧
        (∀ (H : Hp) (a : Addr) (ns : List Int), ns.length ≤ n → (∀ z ∈ ns, Builtin.Int.intBits z ≤ 1048576) → (∀ b ∈ tbA K, H b = some (.tbl #[])) → SqL K H a (ns.map V.int) → sp [.ref a] H (fun v _ => v = .bl true) fun _ _ _ => False) ∧
        ∀ base : Heap, K.In base → base.Ns mainGlobals mg → LamB K mg base → FnG l.prog w K mg base (CxK.cx l.prog w) k fa fd [x] sp) :
    PySem.W.WalkO q loose XP YP l.row.toRowW d [] (fun f vs => PySem.call f vs) := by
  refine Att.attach_callB hn hdf fun w s0 s1 mg mb fa o pm cd doc a vs ns G Y ho hd hcd hmg hobj hints hlen hbits hg => ?_
  obtain ⟨K, fd, sp, KX, hrec, nT, nd, hb, hsp, hF⟩ := F w mg fa _ Y G.T.g hmg
  have T : TabsH K s1.heap := fun y hy c Q hc => by
    rcases hrec y hy with z | ⟨dr, z⟩
    · rw [z] at hc; cases hc
    · exact PySem.W.tab_of G.T KX z hc
  refine law_callGT KX G.T.g G.T.b G.T.builtins G.T.nolimit hg T nT nd G.T.bmain hobj hints (Nat.le_trans hlen hn2) hr hF hb (fun H hT hS => hsp H a ns hlen hbits hT hS) fun H e s' hq => ?_
  exact CxK.no _ _ _ _ _ _ _ hq
end Mir
end
section
set_option Elab.async false
set_option linter.all false
set_option maxRecDepth 100000
set_option maxHeartbeats 4000000
namespace Mir
open PySem PySem.Spec PyProof.Rows L2
/-- the keys' view r of the dict a -/
def KVO (r a : Addr) : HO := .ext fun h => PySem.W.KdlKeysView h r a
section
variable {prog : Program} {w : World} {d : Addr}
theorem meets_keysR (hd : (d == sysModules) = false) :
    MeetsIn prog w (Builtin.«dict.keys» ⟨[.ref d], []⟩) (fun _ R s => s.TypeIs (.ref d) "dict" ∧ R (.ok (.ret (.ref s.heap.objs.size))) { s with heap := s.heap.push { cls := .type "dict_keys", data := .fields #[.ref d] } }) :=
  .of_wp fun A R s ⟨ty, h⟩ => by
    refine wpAny_bind ?_
    unfold Builtin.Dict.noArgs
    refine wpAny_bind (wpAny_notOrdered_dict ty ?_)
    show wpAny _ _ (pure d) _ _ s
    refine wpAny_pure ?_
    show wpAny _ _ (Builtin.Dict.showsAll d >>= _) _ _ s
    unfold Builtin.Dict.showsAll
    rw [if_neg (by rw [hd]; simp)]
    exact wpAny_bind (wpAny_pure (wpAny_bind (wpAny_newObj_type (wpAny_pure ⟨_, rfl, h⟩))))
end
def tVKeys (td : TE) : TE := fun σ H Q => td σ H fun x H1 => ∃ a xs, x = .ref a ∧ H1 a = some (DVO a xs) ∧ ∀ p, H1 p = none → Q (.ref p) (upd H1 p (KVO p a))
section
variable {X : Cx} {apos cpos : Pos} {o : Expr} {td : TE}
theorem pe_vkeys (ho : PE X o td) (hbase : attributeBase o "keys" X.env (eval o X.env) = eval o X.env := by rfl) (hline : (apos.endLine == cpos.line) = true := by rfl) : PE X (.Call (.Attribute o "keys" apos) [] [] cpos) (tVKeys td) := by
  refine ⟨fun pins s σ H Q I h => ?_⟩
  refine wpAny_Call_method0_late hbase hline (thn (ho.run pins s σ H _ I h) fun v s1 ⟨x, H1, I1, r1, a, xs, ex, e, q⟩ => ?_)
  subst ex
  obtain rfl : v = Value.ref a := r1
  obtain ⟨⟨h1, h2, ob, es, ep, h3, h4, h5, h6, h7⟩, _, _⟩ := (show ObjOk X.prog X.w H1 s1.heap a (DVO a xs) from I1.hok a _ e)
  have ty : s1.TypeIs (.ref a) "dict" := ⟨ob, h3, h4.1⟩
  refine ⟨"dict", _, PySem.F.plainAttrs_dict, PySem.F.slot_dict_keys, PySem.F.type_dict_keys, ty, fun b z => by cases z; exact ⟨ob, h3, h4.2.1⟩, ?_⟩
  refine Calls.callWith_builtin rfl (PySem.evalArgs_none ?_)
  refine call_meetsIn PySem.F.slot_dict_keys ty PySem.F.entry_dict_keys (PySem.F.args_dict_keys_1 _) (meets_keysR h1) ⟨ty, ?_⟩
  have hn := I1.hok.fresh (Nat.le_refl s1.heap.objs.size)
  have hget : (s1.heap.push { cls := .type "dict_keys", data := .fields #[.ref a] }).get? s1.heap.objs.size = some { cls := .type "dict_keys", data := .fields #[.ref a] } := Heap.get?_push_size _ rfl
  have I2 := I1.laid (a := s1.heap.objs.size) (o := KVO s1.heap.objs.size a) (t' := s1.toks) (fun _ _ z => Heap.get?_push_of_some _ z) (Nat.le_refl _)
    (show ObjOk X.prog X.w _ (s1.heap.push { cls := .type "dict_keys", data := .fields #[.ref a] }) s1.heap.objs.size (KVO s1.heap.objs.size a) from
      ⟨⟨_, hget, rfl, rfl⟩, ⟨_, hget⟩, fun g1 g2 ⟨o1, k1, k2, k3⟩ hh => ⟨o1, hh _ k1, k2, k3⟩⟩)
  exact ⟨.ref s1.heap.objs.size, _, I2, rfl, q _ hn⟩
def rKeysW (K : PySem.W.Frag) : List V → Hp → VK → Prop := fun ys H Q => ∃ r a xs, ys = [V.ref r] ∧ H r = some (KVO r a) ∧ H a = some (DVO a xs) ∧ KeysV K H xs ∧ ∀ p, H p = none → Q (.ref p) (upd H p (.lst (xs.map fun x => V.ref x.2.1)))
theorem call_keysW (hc : X.calm = true) : CallR X (.type "list") (rKeysW X.K) := by
  intro pins s σ H ys us Q I r h
  obtain ⟨rr, a, xs, rfl, er, e, hk, q⟩ := h
  rw [Vals.ref1 r]
  obtain ⟨z, hd, nd, dd⟩ := dv_rdT I e hk
  obtain ⟨o, es, ep, h3, h4, h5, h6, _, h7⟩ := dd
  obtain ⟨vw, _, _⟩ := (show ObjOk X.prog X.w H s.heap rr (KVO rr a) from I.hok rr _ er)
  have hsz : es.size = xs.length := by
    have := congrArg List.length h6
    rw [Array.length_toList, List.length_map] at this
    exact this
  have raw : s.heap.DictRaw a es ep := ⟨o, h3, h4, h5⟩
  refine PySem.W.kdl_call (KdlSrc.rawKeys (prog := X.prog) (w := X.w)) (I.ok.hd hc) ⟨vw, raw⟩ (by rw [hsz]; exact z) fun h' tk acc' c' kp hl it => ?_
  have hn := I.hok.fresh (Nat.le_refl s.heap.objs.size)
  have hacc : acc'.toList = xs.map fun x => Value.ref x.2.1 := by
    refine List.ext_getElem? fun j => ?_
    rw [List.getElem?_map, Array.getElem?_toList]
    by_cases hj : j < xs.length
    · have h1 : j < acc'.size := by rw [it.1, hsz]; exact hj
      rw [List.getElem?_eq_getElem hj, Array.getElem?_eq_getElem h1]
      obtain ⟨hi, e1⟩ := it.2 j _ (Array.getElem?_eq_getElem h1)
      have e2 : es.toList[j]? = some es[j] := by rw [Array.getElem?_toList]; exact Array.getElem?_eq_getElem hi
      rw [h6, List.getElem?_map, List.getElem?_eq_getElem hj] at e2
      rw [e1, ← Option.some.inj e2]
      rfl
    · rw [List.getElem?_eq_none (by omega), Array.getElem?_eq_none (by rw [it.1, hsz]; omega)]
      rfl
  have hv : ∀ l : List XV, Vals (l.map fun x => V.ref x.2.1) (l.map fun x => Value.ref x.2.1) := by
    intro l
    induction l with
    | nil => exact .nil
    | cons x l ih => exact .cons rfl ih
  have I1 := I.laid (a := s.heap.objs.size) (o := .lst (xs.map fun x => V.ref x.2.1)) (h' := h') (t' := tk) kp (Nat.le_refl _) ⟨by rw [List.length_map]; exact z, acc'.toList, c', by rw [hacc]; exact hv xs, hl⟩
  exact ⟨.ref s.heap.objs.size, _, I1, rfl, q _ hn⟩
end
section
variable {K : PySem.W.Frag} {mg : Str → Option Value} {F : Fm} {σ : L2.St} {G G' H H' : Hp} {en : En}
theorem tvw_keys : ∀ {xs : List XV} {kvs : List (Vw × D)}, TvV K G xs kvs → KeysV K G xs
  | _, _, .nil, x, hx => nomatch hx
  | _, _, .cons ⟨e1, e2, _⟩ t, x, hx => by
    rcases List.mem_cons.mp hx with e | hx
    · subst e; exact e2
    · exact tvw_keys t x hx
theorem tvw_list : ∀ {xs : List XV} {kvs : List (Vw × D)}, TvV K G xs kvs → DpAll K G (xs.map fun x => V.ref x.2.1) (kvs.map fun p => vwD p.1)
  | _, _, .nil => .nil
  | _, _, .cons ⟨e1, e2, _⟩ t => .cons (by dsimp only; rw [← e1]; exact e2) (tvw_list t)
/-- list(d.keys()), d an own dict -/
def lKeysD (i : Nat) : Am := fun en => match dvAt en i with
  | some kvs => .ok (kvs.map fun p => vwD p.1, en)
  | none => .stk
theorem sl_keysD {E : L2.St → XK} {i : Nat} : SL K mg E (tCB (rKeysW K) (tCons (tVKeys (tVar i)) tNil)) (lKeysD i) := by
  refine ⟨fun F σ en G H Q g h => ?_⟩
  unfold lKeysD at h
  split at h
  · rename_i kvs e
    obtain ⟨om, s⟩ := g.sat
    obtain ⟨v, as, h1, ⟨p, xs, rfl, rfl, h2, h3, nd, h4⟩, h5⟩ := s i _ (dvAt_some e)
    refine ⟨.ref p, h1, p, xs, rfl, h3, fun r hr => ?_⟩
    have hpr : p ≠ r := fun z => by rw [z, hr] at h3; cases h3
    have f1 := gf0_new (o := KVO r p) g.gf.gh hr
    have g1 := g.grow f1
    refine ⟨r, p, xs, rfl, upd_same, by rw [upd_ne hpr]; exact h3, fun x hx => dp_mono g1.gf.gh _ _ (tvw_keys h4 x hx), fun q hq => ?_⟩
    have f2 := gf0_new (o := .lst (xs.map fun x => V.ref x.2.1)) g1.gf.gh hq
    exact h q _ G _ (g1.grow f2) (Same.refl _) (Same.free g1.gf.gh hq) upd_same (tvw_list h4) (h0_new g1 hq) (free_new g1 hq f2)
  · exact h.elim
end
end Mir
end
section
set_option Elab.async false
set_option linter.all false
set_option maxRecDepth 100000
set_option maxHeartbeats 4000000
namespace K24
open PySem PySem.Spec PyProof.Rows L2 Mir
/-- slots: 0 _law_script -/
def m__law_start : Am :=
  (aRetL (lLst (aCons (eL (lN fList (aCons (eVar 0) aNil))) (aCons (eC (.int 0)) (aCons (eC (.int 0)) (aCons (e2 fAdd (eC (.int 5381)) (e2 fMul (eC (.int 31)) (eN fLen (aCons (eVar 0) aNil)))) aNil))))))
def M__law_start : List D → Rs (List D) := fnO 1 1 m__law_start
/-- slots: 0 _law_state, 1 _law_many, 2 _law_number, 3 _law_cell -/
def m__law_draw : Sm :=
  (mSeq (mIf (tmOr (tmB (e2 fLt (eVar 1) (eC (.int 2)))) (tmB (e2 fEq (eN fLen (aCons (eDIx 0 (eC (.int 0))) aNil)) (eC (.int 0)))))
  (mRet (eC (.int 0)))
  mNext)
  (mSeq (mIf (tmB (e2 fEq (eDIx 0 (eC (.int 2))) (eC (.int 0))))
  (mSeq (mAsg (gmName 3) (eC (.int 977)))
  (mSeq (mIf (tmB (e2 fLt (eDIx 0 (eC (.int 1))) (eN fLen (aCons (eDIx 0 (eC (.int 0))) aNil))))
  (mSeq (mAsg (gmName 3) (e2 fIx (eDIx 0 (eC (.int 0))) (eDIx 0 (eC (.int 1)))))
  (mSetD 0 (eC (.int 1)) (e2 fAdd (eDIx 0 (eC (.int 1))) (eC (.int 1)))))
  mNext)
  (mSeq (mIf (tmB (e2 fLt (eVar 3) (eC (.int 0))))
  (mAsg (gmName 3) (e2 fSub (eC (.int 1)) (e2 fMul (eC (.int 2)) (eVar 3))))
  mNext)
  (mSeq (mIf (tmB (e2 fLt (eVar 3) (eC (.int 1000000000000000000))))
  (mSeq (mSetD 0 (eC (.int 3)) (e2 fMod (eN fInt (aCons (e2 fAdd (e2 fAdd (e2 fMul (eDIx 0 (eC (.int 3))) (eC (.int 48271))) (e2 fMul (eVar 3) (eC (.int 69621)))) (eC (.int 1237))) aNil)) (eC (.int 2147483629))))
  (mRet (e2 fMod (eN fInt (aCons (e2 fDiv (eDIx 0 (eC (.int 3))) (eC (.int 6007))) aNil)) (eVar 1))))
  mNext)
  (mSetD 0 (eC (.int 2)) (eVar 3))))))
  mNext)
  (mSeq (mAsg (gmName 2) (e2 fMod (eN fInt (aCons (eDIx 0 (eC (.int 2))) aNil)) (eVar 1)))
  (mSeq (mSetD 0 (eC (.int 2)) (e2 fDiv (eDIx 0 (eC (.int 2))) (eVar 1)))
  (mRet (eVar 2))))))
def M__law_draw : MO → List D → Rs (D × MO) := fnD 4 2 m__law_draw
/-- slots: 0 _law_state, 1 _law_many, 2 _law_shape, 3 _law_spared, 4 _law_lots_here, 5 _law_turn, 6 _law_lot, 7 _law_house, 8 _law_small -/
def m__law_lots : Sm :=
  (mSeq (mAsg (gmName 2) (eCallD M__law_draw 0 (aCons (eC (.int 4)) aNil)))
  (mSeq (mAsg (gmName 3) (eCallD M__law_draw 0 (aCons (eVar 1) aNil)))
  (mSeq (mAsgO 4 (lLst aNil))
  (mSeq (mFor (imRng rng1 (aCons (e2 fAdd (eC (.int 1)) (eCallD M__law_draw 0 (aCons (eC (.int 5)) aNil))) aNil)) (gmName 5)
  (mSeq (mAsgO 6 (lLst aNil))
  (mSeq (mFor (imRng rng1 (aCons (eVar 1) aNil)) (gmName 7)
  (mSeq (mAsg (gmName 8) (eOr (e2 fNe (eVar 2) (eC (.int 0))) (e2 fLt (e2 fMul (eC (.int 2)) (e2 fAdd (eBLen 6) (eC (.int 1)))) (eVar 1))))
  (mIf (tmAnd (tmB (e2 fEq (eCallD M__law_draw 0 (aCons (eC (.int 2)) aNil)) (eC (.int 1)))) (tmAnd (tmTru (eVar 8)) (tmOr (tmB (e2 fNe (eVar 2) (eC (.int 1)))) (tmB (e2 fNe (eVar 7) (eVar 3))))))
  (mApp 6 (eVar 7))
  mNext)))
  (mApp 4 (eN fTuple (aCons (eVar 6) aNil))))))
  (mSeq (mIf (tmB (e2 fEq (eVar 2) (eC (.int 2))))
  (mSetO 4 (e1 fNeg (eC (.int 1))) (eBIx 4 (eC (.int 0))))
  mNext)
  (mRet (eN fTuple (aCons (eVar 4) aNil))))))))
def M__law_lots : MO → List D → Rs (D × MO) := fnD 9 2 m__law_lots
/-- slots: 0 _law_many -/
def m__law_odd_lots : Sm :=
  (mRet (eTup (aCons (eC .none) (aCons (eTup aNil) (aCons (eC (.int 0)) (aCons (eC (.str "lots")) (aCons (eL (lLst (aCons (eTup aNil) aNil))) (aCons (eTup (aCons (eTup (aCons (eC (.int 0)) aNil)) (aCons (eL (lLst (aCons (eC (.int 0)) aNil))) aNil))) (aCons (eTup (aCons (eC (.int 0)) aNil)) (aCons (eTup (aCons (eTup (aCons (eC (.int 0)) (aCons (eC (.int 0)) aNil))) aNil)) (aCons (eTup (aCons (eTup (aCons (eVar 0) aNil)) aNil)) (aCons (eTup (aCons (eTup (aCons (e1 fNeg (eC (.int 1))) aNil)) aNil)) (aCons (eTup (aCons (eTup (aCons (eC (.bool false)) aNil)) aNil)) (aCons (eTup (aCons (eTup (aCons (eC (.int 1)) (aCons (eC (.int 0)) aNil))) aNil)) (aCons (eTup (aCons (eTup aNil) (aCons (eC .none) aNil))) (aCons (eTup (aCons (eTup (aCons (eC (.int 0)) aNil)) (aCons (eC (.str "0")) aNil))) (aCons (eTup (aCons (eTup (aCons (eTup (aCons (eC (.int 0)) aNil)) aNil)) aNil)) aNil)))))))))))))))))
def M__law_odd_lots : List D → Rs D := fnM 1 1 m__law_odd_lots
/-- slots: 0 _law_many -/
def m__law_odd_bits : Sm :=
  (mRet (eTup (aCons (eC .none) (aCons (eC (.str "0")) (aCons (eL (lRep (lLst (aCons (eC (.int 0)) aNil)) (eVar 0))) (aCons (e2 fMulT (eTup (aCons (eC (.bool true)) aNil)) (eVar 0)) (aCons (e2 fAdd (e2 fMulT (eTup (aCons (eC (.int 0)) aNil)) (e2 fSub (eVar 0) (eC (.int 1)))) (eTup (aCons (eC (.int 2)) aNil))) (aCons (e2 fAdd (e2 fMulT (eTup (aCons (eC (.int 0)) aNil)) (e2 fSub (eVar 0) (eC (.int 1)))) (eTup (aCons (eC .none) aNil))) (aCons (e2 fMulT (eTup (aCons (eC (.int 0)) aNil)) (e2 fAdd (eVar 0) (eC (.int 1)))) (aCons (e2 fMulT (eTup (aCons (eC (.int 0)) aNil)) (e2 fSub (eVar 0) (eC (.int 1)))) (aCons (e2 fAdd (eTup (aCons (e1 fNeg (eC (.int 1))) aNil)) (e2 fMulT (eTup (aCons (eC (.int 1)) aNil)) (e2 fSub (eVar 0) (eC (.int 1))))) (aCons (eC (.int 0)) aNil))))))))))))
def M__law_odd_bits : List D → Rs D := fnM 1 1 m__law_odd_bits
/-- slots: 0 _law_told, 1 _law_due, 2 _law_k -/
def m__law_same (R : List D → Rs D) : Sm :=
  (mSeq (mIf (tmB (e2 fIs (eVar 1) (eC .none)))
  (mRet (e2 fIs (eVar 0) (eC .none)))
  mNext)
  (mSeq (mIf (tmTru (eIsi .tup (eVar 1)))
  (mSeq (mIf (tmOr (tmNot (tmTru (eIsi .tup (eVar 0)))) (tmB (e2 fNe (eN fLen (aCons (eVar 0) aNil)) (eN fLen (aCons (eVar 1) aNil)))))
  (mRet (eC (.bool false)))
  mNext)
  (mSeq (mFor (imRng rng1 (aCons (eN fLen (aCons (eVar 1) aNil)) aNil)) (gmName 2)
  (mIf (tmNot (tmTru (eCall R (aCons (e2 fIx (eVar 0) (eVar 2)) (aCons (e2 fIx (eVar 1) (eVar 2)) aNil)))))
  (mRet (eC (.bool false)))
  mNext))
  (mRet (eC (.bool true)))))
  mNext)
  (mRet (eAnd (eIsi .int (eVar 0)) (eAnd (eNot (eIsi .bool (eVar 0))) (e2 fEq (eVar 0) (eVar 1)))))))
def MR__law_same : Nat → List D → Rs D
  | 0 => fun _ => .stk
  | j + 1 => fnM 3 2 (m__law_same (MR__law_same j))
def M__law_same : List D → Rs D := MR__law_same 6
/-- slots: 0 good, 1 word -/
def m_a_want : Sm :=
  (mIf (tmNot (tmTru (eVar 0)))
  (mRaise "NotUsable" "word" "at" (aCons (eVar 1) (aCons (e1 fNeg (eC (.int 1))) aNil)))
  mNext)
def M_a_want : List D → Rs D := fnM 2 2 m_a_want
/-- slots: 0 thing -/
def m_integer_fits : Sm :=
  (mRet (eAnd (eIsi .int (eVar 0)) (eNot (eIsi .bool (eVar 0)))))
def M_integer_fits : List D → Rs D := fnM 1 1 m_integer_fits
/-- slots: 0 thing -/
def m_is_integer : Sm :=
  (mRet (eCall M_integer_fits (aCons (eVar 0) aNil)))
def M_is_integer : List D → Rs D := fnM 1 1 m_is_integer
/-- slots: 0 many -/
def m_want_many : Sm :=
  (mDrop (eCall M_a_want (aCons (eAnd (eCall M_is_integer (aCons (eVar 0) aNil)) (e2 fGe (eVar 0) (eC (.int 1)))) (aCons (eC (.str "many")) aNil))))
def M_want_many : List D → Rs D := fnM 1 1 m_want_many
/-- slots: 0 thing -/
def m_number_fits : Sm :=
  (mRet (eAnd (eCall M_integer_fits (aCons (eVar 0) aNil)) (e2 fGe (eVar 0) (eC (.int 0)))))
def M_number_fits : List D → Rs D := fnM 1 1 m_number_fits
/-- slots: 0 many, 1 thing -/
def m_house_fits : Sm :=
  (mRet (eAnd (eCall M_number_fits (aCons (eVar 1) aNil)) (e2 fLt (eVar 1) (eVar 0))))
def M_house_fits : List D → Rs D := fnM 2 2 m_house_fits
/-- slots: 0 many, 1 thing, 2 last, 3 house -/
def m_lot_fits : Sm :=
  (mSeq (mIf (tmNot (tmTru (eIsi .tup (eVar 1))))
  (mRet (eC (.bool false)))
  mNext)
  (mSeq (mAsg (gmName 2) (e1 fNeg (eC (.int 1))))
  (mSeq (mFor (imSeq (eVar 1)) (gmName 3)
  (mSeq (mIf (tmOr (tmNot (tmTru (eCall M_house_fits (aCons (eVar 0) (aCons (eVar 3) aNil))))) (tmB (e2 fLe (eVar 3) (eVar 2))))
  (mRet (eC (.bool false)))
  mNext)
  (mAsg (gmName 2) (eVar 3))))
  (mRet (eC (.bool true))))))
def M_lot_fits : List D → Rs D := fnM 4 2 m_lot_fits
/-- slots: 0 many, 1 thing, 2 lot -/
def m_is_lots : Sm :=
  (mRet (eAnd (eIsi .tup (eVar 1)) (eN fAll (aCons (eL (lLc (imSeq (eVar 1)) [2] (gmName 2) tmYes (eCall M_lot_fits (aCons (eVar 0) (aCons (eVar 2) aNil))))) aNil))))
def M_is_lots : List D → Rs D := fnM 3 2 m_is_lots
/-- slots: 0 many, 1 lots -/
def m_want_lots : Sm :=
  (mDrop (eCall M_a_want (aCons (eAnd (eCall M_is_lots (aCons (eVar 0) (aCons (eVar 1) aNil))) (e2 fGt (eN fLen (aCons (eVar 1) aNil)) (eC (.int 0)))) (aCons (eC (.str "lots")) aNil))))
def M_want_lots : List D → Rs D := fnM 2 2 m_want_lots
/-- slots: 0 many, 1 one, 2 other, 3 house -/
def m_least_outside : Sm :=
  (mSeq (mFor (imRng rng1 (aCons (eVar 0) aNil)) (gmName 3)
  (mIf (tmAnd (tmB (e2 fNotIn (eVar 3) (eVar 1))) (tmB (e2 fNotIn (eVar 3) (eVar 2))))
  (mRet (eVar 3))
  mNext))
  (mRet (eC .none)))
def M_least_outside : List D → Rs D := fnM 4 3 m_least_outside
/-- slots: 0 many, 1 lots, 2 dealt, 3 k, 4 j, 5 _, 6 house, 7 pairs -/
def m_dealt_to : Sm :=
  (mSeq (mAsgW 2 (wLc (imRng rng1 (aCons (eVar 0) aNil)) [5] (gmName 5) tmYes (lLst aNil)))
  (mSeq (mFor (imRng rng1 (aCons (eN fLen (aCons (eVar 1) aNil)) aNil)) (gmName 3)
  (mFor (imRng rng1 (aCons (eN fLen (aCons (eVar 1) aNil)) aNil)) (gmName 4)
  (mSeq (mAsg (gmName 6) (eCall M_least_outside (aCons (eVar 0) (aCons (e2 fIx (eVar 1) (eVar 3)) (aCons (e2 fIx (eVar 1) (eVar 4)) aNil)))))
  (mSeq (mIf (tmB (e2 fIs (eVar 6) (eC .none)))
  (mRet (eC .none))
  mNext)
  (mAppLL 2 (eVar 6) (eTup (aCons (eVar 3) (aCons (eVar 4) aNil))))))))
  (mRet (eN fTuple (aCons (eL (lLc (imSeq (eFrz 2)) [7] (gmName 7) tmYes (eN fTuple (aCons (eVar 7) aNil)))) aNil)))))
def M_dealt_to : List D → Rs D := fnM 8 2 m_dealt_to
/-- slots: 0 many, 1 lots, 2 dealt -/
def m_dealt_pairs : Sm :=
  (mSeq (mDrop (eCall M_want_many (aCons (eVar 0) aNil)))
  (mSeq (mDrop (eCall M_want_lots (aCons (eVar 0) (aCons (eVar 1) aNil))))
  (mSeq (mAsg (gmName 2) (eCall M_dealt_to (aCons (eVar 0) (aCons (eVar 1) aNil))))
  (mSeq (mDrop (eCall M_a_want (aCons (e2 fIsNot (eVar 2) (eC .none)) (aCons (eC (.str "lots")) aNil))))
  (mRet (eVar 2))))))
def M_dealt_pairs : List D → Rs D := fnM 3 2 m_dealt_pairs
/-- slots: 0 thing -/
def m_is_bit : Sm :=
  (mRet (eAnd (eCall M_number_fits (aCons (eVar 0) aNil)) (e2 fLe (eVar 0) (eC (.int 1)))))
def M_is_bit : List D → Rs D := fnM 1 1 m_is_bit
/-- slots: 0 thing, 1 bit -/
def m_is_bits : Sm :=
  (mRet (eAnd (eIsi .tup (eVar 0)) (eN fAll (aCons (eL (lLc (imSeq (eVar 0)) [1] (gmName 1) tmYes (eCall M_is_bit (aCons (eVar 1) aNil)))) aNil))))
def M_is_bits : List D → Rs D := fnM 2 1 m_is_bits
/-- slots: 0 many, 1 lots, 2 one, 3 other, 4 dealt, 5 pairs, 6 k, 7 j -/
def m_product_sums : Sm :=
  (mSeq (mAsg (gmName 4) (eCall M_dealt_pairs (aCons (eVar 0) (aCons (eVar 1) aNil))))
  (mSeq (mDrop (eCall M_a_want (aCons (eAnd (eCall M_is_bits (aCons (eVar 2) aNil)) (e2 fEq (eN fLen (aCons (eVar 2) aNil)) (eN fLen (aCons (eVar 1) aNil)))) (aCons (eC (.str "one")) aNil))))
  (mSeq (mDrop (eCall M_a_want (aCons (eAnd (eCall M_is_bits (aCons (eVar 3) aNil)) (e2 fEq (eN fLen (aCons (eVar 3) aNil)) (eN fLen (aCons (eVar 1) aNil)))) (aCons (eC (.str "other")) aNil))))
  (mRet (eN fTuple (aCons (eL (lLc (imSeq (eVar 4)) [5] (gmName 5) tmYes (e2 fMod (eN fSum (aCons (eL (lLc (imSeq (eVar 5)) [6, 7] (gmTup [6, 7]) tmYes (e2 fMul (e2 fIx (eVar 2) (eVar 6)) (e2 fIx (eVar 3) (eVar 7))))) aNil)) (eC (.int 2))))) aNil))))))
def M_product_sums : List D → Rs D := fnM 8 4 m_product_sums
def M__law_refused : List D → Rs D → Rs D := mAskW (fun vs => [([(("NotUsable" : Str), true)], (xAnd (x2 fEq (xF "word") (xStr vs 0)) (xAnd (xIsi .int (xF "at")) (xAnd (xNot (xIsi .bool (xF "at"))) (x2 fEq (xF "at") (fun _ => .ok (.int (-1))))))))])
/-- slots: 0 thing -/
def m_is_number : Sm :=
  (mRet (eCall M_number_fits (aCons (eVar 0) aNil)))
def M_is_number : List D → Rs D := fnM 1 1 m_is_number
/-- slots: 0 many, 1 lots, 2 house, 3 pieces, 4 k -/
def m_gets_of : Sm :=
  (mSeq (mDrop (eCall M_want_many (aCons (eVar 0) aNil)))
  (mSeq (mDrop (eCall M_want_lots (aCons (eVar 0) (aCons (eVar 1) aNil))))
  (mSeq (mDrop (eCall M_a_want (aCons (eAnd (eCall M_is_number (aCons (eVar 2) aNil)) (e2 fLt (eVar 2) (eVar 0))) (aCons (eC (.str "house")) aNil))))
  (mSeq (mDrop (eCall M_a_want (aCons (eAnd (eCall M_is_bits (aCons (eVar 3) aNil)) (e2 fEq (eN fLen (aCons (eVar 3) aNil)) (eN fLen (aCons (eVar 1) aNil)))) (aCons (eC (.str "pieces")) aNil))))
  (mRet (eN fTuple (aCons (eL (lLc (imRng rng1 (aCons (eN fLen (aCons (eVar 1) aNil)) aNil)) [4] (gmName 4) (tmB (e2 fNotIn (eVar 2) (e2 fIx (eVar 1) (eVar 4)))) (e2 fIx (eVar 3) (eVar 4)))) aNil)))))))
def M_gets_of : List D → Rs D := fnM 5 4 m_gets_of
/-- slots: 0 thing -/
def m_many_fits : Sm :=
  (mRet (eAnd (eCall M_integer_fits (aCons (eVar 0) aNil)) (e2 fGe (eVar 0) (eC (.int 1)))))
def M_many_fits : List D → Rs D := fnM 1 1 m_many_fits
/-- slots: 0 many, 1 thing -/
def m_is_lot : Sm :=
  (mSeq (mDrop (eCall M_a_want (aCons (eCall M_many_fits (aCons (eVar 0) aNil)) (aCons (eC (.str "many")) aNil))))
  (mRet (eCall M_lot_fits (aCons (eVar 0) (aCons (eVar 1) aNil)))))
def M_is_lot : List D → Rs D := fnM 2 2 m_is_lot
/-- slots: 0 many, 1 one, 2 other -/
def m_helper_of : Sm :=
  (mSeq (mDrop (eCall M_want_many (aCons (eVar 0) aNil)))
  (mSeq (mDrop (eCall M_a_want (aCons (eCall M_is_lot (aCons (eVar 0) (aCons (eVar 1) aNil))) (aCons (eC (.str "one")) aNil))))
  (mSeq (mDrop (eCall M_a_want (aCons (eCall M_is_lot (aCons (eVar 0) (aCons (eVar 2) aNil))) (aCons (eC (.str "other")) aNil))))
  (mRet (eCall M_least_outside (aCons (eVar 0) (aCons (eVar 1) (aCons (eVar 2) aNil))))))))
def M_helper_of : List D → Rs D := fnM 3 3 m_helper_of
/-- slots: 0 _law_state, 1 _law_many, 2 _law_lots_here, 3 _law_row, 4 _law_odd, 5 _law_spared, 6 _law_whole, 7 _law_half, 8 _law_rest, 9 _law_bad, 10 _law_house -/
def m__law_later_refusals : Sm :=
  (mSeq (mFor (imSeq (eTup (aCons (eVar 1) (aCons (e1 fNeg (eC (.int 1))) (aCons (eC (.bool true)) (aCons (eC (.bool false)) (aCons (eC .none) (aCons (eC (.str "0")) (aCons (eTup (aCons (eC (.int 0)) aNil)) aNil))))))))) (gmName 4)
  (mIf (tmNot (tmTru (eAsk M__law_refused 0 (aCons (eC (.str "house")) aNil) (eCall M_gets_of (aCons (eVar 1) (aCons (eVar 2) (aCons (eVar 4) (aCons (eC .none) aNil))))))))
  (mRet (eC (.bool false)))
  mNext))
  (mSeq (mFor (imSeq (eTup (aCons (eC .none) (aCons (eC (.int 0)) (aCons (eL (lLst (aCons (eC (.int 0)) aNil))) (aCons (eTup (aCons (eC (.int 0)) (aCons (eC (.int 0)) aNil))) (aCons (eTup (aCons (eVar 1) aNil)) (aCons (eTup (aCons (e1 fNeg (eC (.int 1))) aNil)) (aCons (eTup (aCons (eC (.bool false)) aNil)) (aCons (eC (.str "")) (aCons (eTup (aCons (eC (.str "0")) aNil)) aNil))))))))))) (gmName 4)
  (mSeq (mIf (tmNot (tmTru (eAsk M__law_refused 0 (aCons (eC (.str "one")) aNil) (eCall M_helper_of (aCons (eVar 1) (aCons (eVar 4) (aCons (eC .none) aNil)))))))
  (mRet (eC (.bool false)))
  mNext)
  (mIf (tmNot (tmTru (eAsk M__law_refused 0 (aCons (eC (.str "other")) aNil) (eCall M_helper_of (aCons (eVar 1) (aCons (eTup aNil) (aCons (eVar 4) aNil)))))))
  (mRet (eC (.bool false)))
  mNext)))
  (mSeq (mAsg (gmName 5) (e2 fMulT (eTup (aCons (eTup aNil) aNil)) (eN fLen (aCons (eVar 2) aNil))))
  (mSeq (mFor (imSeq (eCall M__law_odd_bits (aCons (eN fLen (aCons (eVar 2) aNil)) aNil))) (gmName 4)
  (mSeq (mIf (tmNot (tmTru (eAsk M__law_refused 0 (aCons (eC (.str "pieces")) aNil) (eCall M_gets_of (aCons (eVar 1) (aCons (eVar 2) (aCons (eC (.int 0)) (aCons (eVar 4) aNil))))))))
  (mRet (eC (.bool false)))
  mNext)
  (mSeq (mIf (tmNot (tmTru (eAsk M__law_refused 0 (aCons (eC (.str "one")) aNil) (eCall M_product_sums (aCons (eVar 1) (aCons (eVar 5) (aCons (eVar 4) (aCons (eVar 4) aNil))))))))
  (mRet (eC (.bool false)))
  mNext)
  (mIf (tmNot (tmTru (eAsk M__law_refused 0 (aCons (eC (.str "other")) aNil) (eCall M_product_sums (aCons (eVar 1) (aCons (eVar 5) (aCons (eVar 3) (aCons (eVar 4) aNil))))))))
  (mRet (eC (.bool false)))
  mNext))))
  (mSeq (mAsg (gmName 6) (eTupR1 (eVar 1)))
  (mSeq (mAsg (gmName 7) (eN fTuple (aCons (eL (lLc (imSeq (eVar 6)) [10] (gmName 10) (tmB (e2 fEq (eCallD M__law_draw 0 (aCons (eC (.int 2)) aNil)) (eC (.int 1)))) (eVar 10))) aNil)))
  (mSeq (mAsg (gmName 8) (eN fTuple (aCons (eL (lLc (imSeq (eVar 6)) [10] (gmName 10) (tmB (e2 fNotIn (eVar 10) (eVar 7))) (eVar 10))) aNil)))
  (mSeq (mFor (imSeq (eTup (aCons (eTup (aCons (eVar 6) aNil)) (aCons (eTup (aCons (eTup aNil) (aCons (eVar 6) aNil))) (aCons (eTup (aCons (eVar 7) (aCons (eVar 8) aNil))) (aCons (eTup (aCons (eVar 8) (aCons (eTup aNil) (aCons (eVar 7) aNil)))) aNil)))))) (gmName 9)
  (mSeq (mIf (tmNot (tmTru (eAsk M__law_refused 0 (aCons (eC (.str "lots")) aNil) (eCall M_dealt_pairs (aCons (eVar 1) (aCons (eVar 9) aNil))))))
  (mRet (eC (.bool false)))
  mNext)
  (mIf (tmNot (tmTru (eAsk M__law_refused 0 (aCons (eC (.str "lots")) aNil) (eCall M_product_sums (aCons (eVar 1) (aCons (eVar 9) (aCons (eC (.int 0)) (aCons (eC (.int 0)) aNil))))))))
  (mRet (eC (.bool false)))
  mNext)))
  (mRet (eCall M__law_same (aCons (eCall M_product_sums (aCons (eVar 1) (aCons (eVar 5) (aCons (eVar 3) (aCons (eVar 3) aNil))))) (aCons (e2 fAdd (eTup (aCons (e2 fMod (eN fInt (aCons (e2 fMul (eN fLen (aCons (eVar 2) aNil)) (eN fLen (aCons (eVar 2) aNil))) aNil)) (eC (.int 2))) aNil)) (e2 fMulT (eTup (aCons (eC (.int 0)) aNil)) (e2 fSub (eVar 1) (eC (.int 1))))) aNil))))))))))))
def M__law_later_refusals : MO → List D → Rs (D × MO) := fnD 11 4 m__law_later_refusals
/-- slots: 0 bit, 1 throws -/
def m_pieces_of : Sm :=
  (mSeq (mDrop (eCall M_a_want (aCons (eCall M_is_bit (aCons (eVar 0) aNil)) (aCons (eC (.str "bit")) aNil))))
  (mSeq (mDrop (eCall M_a_want (aCons (eCall M_is_bits (aCons (eVar 1) aNil)) (aCons (eC (.str "throws")) aNil))))
  (mRet (e2 fAdd (eVar 1) (eTup (aCons (e2 fMod (e2 fAdd (eVar 0) (eN fSumT (aCons (eVar 1) aNil))) (eC (.int 2))) aNil))))))
def M_pieces_of : List D → Rs D := fnM 2 2 m_pieces_of
/-- slots: 0 pieces -/
def m_bit_of : Sm :=
  (mSeq (mDrop (eCall M_a_want (aCons (eCall M_is_bits (aCons (eVar 0) aNil)) (aCons (eC (.str "pieces")) aNil))))
  (mRet (e2 fMod (eN fSumT (aCons (eVar 0) aNil)) (eC (.int 2)))))
def M_bit_of : List D → Rs D := fnM 1 1 m_bit_of
/-- slots: 0 _law_state, 1 _law_many, 2 _law_lots_here, 3 _law_row, 4 _law_odd -/
def m__law_refusals : Sm :=
  (mSeq (mAsg (gmName 3) (e2 fMulT (eTup (aCons (eC (.int 1)) aNil)) (eN fLen (aCons (eVar 2) aNil))))
  (mSeq (mFor (imSeq (eTup (aCons (eC (.int 2)) (aCons (e1 fNeg (eC (.int 1))) (aCons (eC (.bool true)) (aCons (eC (.bool false)) (aCons (eC .none) (aCons (eC (.str "1")) (aCons (eTup (aCons (eC (.int 1)) aNil)) (aCons (eL (lLst (aCons (eC (.int 0)) aNil))) aNil)))))))))) (gmName 4)
  (mSeq (mIf (tmNot (tmTru (eAsk M__law_refused 0 (aCons (eC (.str "bit")) aNil) (eCall M_pieces_of (aCons (eVar 4) (aCons (eC .none) aNil))))))
  (mRet (eC (.bool false)))
  mNext)
  (mIf (tmNot (tmTru (eAsk M__law_refused 0 (aCons (eC (.str "bit")) aNil) (eCall M_pieces_of (aCons (eVar 4) (aCons (eTup (aCons (eC (.int 0)) aNil)) aNil))))))
  (mRet (eC (.bool false)))
  mNext)))
  (mSeq (mFor (imSeq (eTup (aCons (eC .none) (aCons (eL (lLst (aCons (eC (.int 1)) aNil))) (aCons (eTup (aCons (eC (.bool true)) aNil)) (aCons (eTup (aCons (eC (.int 0)) (aCons (eC (.int 2)) aNil))) (aCons (eC (.str "")) (aCons (eC (.int 0)) (aCons (eTup (aCons (eC (.int 0)) (aCons (eC .none) aNil))) (aCons (eTup (aCons (e1 fNeg (eC (.int 1))) aNil)) (aCons (eTup (aCons (eTup (aCons (eC (.int 0)) aNil)) aNil)) aNil))))))))))) (gmName 4)
  (mSeq (mIf (tmNot (tmTru (eAsk M__law_refused 0 (aCons (eC (.str "throws")) aNil) (eCall M_pieces_of (aCons (eC (.int 1)) (aCons (eVar 4) aNil))))))
  (mRet (eC (.bool false)))
  mNext)
  (mIf (tmNot (tmTru (eAsk M__law_refused 0 (aCons (eC (.str "pieces")) aNil) (eCall M_bit_of (aCons (eVar 4) aNil)))))
  (mRet (eC (.bool false)))
  mNext)))
  (mSeq (mFor (imSeq (eTup (aCons (eC (.int 0)) (aCons (e1 fNeg (eC (.int 1))) (aCons (eC (.bool true)) (aCons (eC .none) (aCons (eC (.str "2")) (aCons (eTup (aCons (eC (.int 2)) aNil)) (aCons (eL (lLst (aCons (eC (.int 2)) aNil))) aNil))))))))) (gmName 4)
  (mSeq (mIf (tmNot (tmTru (eAsk M__law_refused 0 (aCons (eC (.str "many")) aNil) (eCall M_gets_of (aCons (eVar 4) (aCons (eC .none) (aCons (eC (.int 0)) (aCons (eTup aNil) aNil))))))))
  (mRet (eC (.bool false)))
  mNext)
  (mSeq (mIf (tmNot (tmTru (eAsk M__law_refused 0 (aCons (eC (.str "many")) aNil) (eCall M_helper_of (aCons (eVar 4) (aCons (eTup aNil) (aCons (eTup aNil) aNil)))))))
  (mRet (eC (.bool false)))
  mNext)
  (mSeq (mIf (tmNot (tmTru (eAsk M__law_refused 0 (aCons (eC (.str "many")) aNil) (eCall M_dealt_pairs (aCons (eVar 4) (aCons (eC (.int 0)) aNil))))))
  (mRet (eC (.bool false)))
  mNext)
  (mIf (tmNot (tmTru (eAsk M__law_refused 0 (aCons (eC (.str "many")) aNil) (eCall M_product_sums (aCons (eVar 4) (aCons (eVar 2) (aCons (eVar 3) (aCons (eVar 3) aNil))))))))
  (mRet (eC (.bool false)))
  mNext)))))
  (mSeq (mFor (imSeq (eCall M__law_odd_lots (aCons (eVar 1) aNil))) (gmName 4)
  (mSeq (mIf (tmNot (tmTru (eAsk M__law_refused 0 (aCons (eC (.str "lots")) aNil) (eCall M_gets_of (aCons (eVar 1) (aCons (eVar 4) (aCons (eVar 1) (aCons (eC .none) aNil))))))))
  (mRet (eC (.bool false)))
  mNext)
  (mSeq (mIf (tmNot (tmTru (eAsk M__law_refused 0 (aCons (eC (.str "lots")) aNil) (eCall M_dealt_pairs (aCons (eVar 1) (aCons (eVar 4) aNil))))))
  (mRet (eC (.bool false)))
  mNext)
  (mIf (tmNot (tmTru (eAsk M__law_refused 0 (aCons (eC (.str "lots")) aNil) (eCall M_product_sums (aCons (eVar 1) (aCons (eVar 4) (aCons (eC .none) (aCons (eVar 3) aNil))))))))
  (mRet (eC (.bool false)))
  mNext))))
  (mRet (eCallD M__law_later_refusals 0 (aCons (eVar 1) (aCons (eVar 2) (aCons (eVar 3) aNil))))))))))
def M__law_refusals : MO → List D → Rs (D × MO) := fnD 5 3 m__law_refusals
/-- slots:  -/
def m__law_by_hand : Sm :=
  (mSeq (mIf (tmOr (tmNot (tmTru (eCall M__law_same (aCons (eCall M_pieces_of (aCons (eC (.int 1)) (aCons (eTup aNil) aNil))) (aCons (eTup (aCons (eC (.int 1)) aNil)) aNil))))) (tmNot (tmTru (eCall M__law_same (aCons (eCallK M_pieces_of 0 2 [1, 0] aNil (aCons (eTup (aCons (eC (.int 1)) (aCons (eC (.int 1)) (aCons (eC (.int 1)) aNil)))) (aCons (eC (.int 0)) aNil))) (aCons (eTup (aCons (eC (.int 1)) (aCons (eC (.int 1)) (aCons (eC (.int 1)) (aCons (eC (.int 1)) aNil))))) aNil))))))
  (mRet (eC (.bool false)))
  mNext)
  (mSeq (mIf (tmOr (tmNot (tmTru (eCall M__law_same (aCons (eCall M_bit_of (aCons (eTup aNil) aNil)) (aCons (eC (.int 0)) aNil))))) (tmNot (tmTru (eCall M__law_same (aCons (eCallK M_bit_of 0 1 [0] aNil (aCons (eTup (aCons (eC (.int 1)) (aCons (eC (.int 0)) (aCons (eC (.int 1)) (aCons (eC (.int 1)) aNil))))) aNil)) (aCons (eC (.int 1)) aNil))))))
  (mRet (eC (.bool false)))
  mNext)
  (mSeq (mIf (tmOr (tmNot (tmTru (eCall M__law_same (aCons (eCall M_helper_of (aCons (eC (.int 1)) (aCons (eTup aNil) (aCons (eTup aNil) aNil)))) (aCons (eC (.int 0)) aNil))))) (tmB (e2 fIsNot (eCall M_helper_of (aCons (eC (.int 1)) (aCons (eTup (aCons (eC (.int 0)) aNil)) (aCons (eTup aNil) aNil)))) (eC .none))))
  (mRet (eC (.bool false)))
  mNext)
  (mSeq (mIf (tmNot (tmTru (eCall M__law_same (aCons (eCallK M_helper_of 0 3 [2, 1, 0] aNil (aCons (eTup (aCons (eC (.int 0)) (aCons (eC (.int 1)) aNil))) (aCons (eTup (aCons (eC (.int 0)) (aCons (eC (.int 3)) aNil))) (aCons (eC (.int 4)) aNil)))) (aCons (eC (.int 2)) aNil)))))
  (mRet (eC (.bool false)))
  mNext)
  (mSeq (mIf (tmOr (tmNot (tmTru (eCall M__law_same (aCons (eCall M_dealt_pairs (aCons (eC (.int 1)) (aCons (eTup (aCons (eTup aNil) aNil)) aNil))) (aCons (eTup (aCons (eTup (aCons (eTup (aCons (eC (.int 0)) (aCons (eC (.int 0)) aNil))) aNil)) aNil)) aNil))))) (tmNot (tmTru (eCall M__law_same (aCons (eCall M_product_sums (aCons (eC (.int 1)) (aCons (eTup (aCons (eTup aNil) aNil)) (aCons (eTup (aCons (eC (.int 1)) aNil)) (aCons (eTup (aCons (eC (.int 1)) aNil)) aNil))))) (aCons (eTup (aCons (eC (.int 1)) aNil)) aNil))))))
  (mRet (eC (.bool false)))
  mNext)
  (mSeq (mIf (tmNot (tmTru (eCall M__law_same (aCons (eCallK M_dealt_pairs 0 2 [1, 0] aNil (aCons (eTup (aCons (eTup aNil) (aCons (eTup (aCons (eC (.int 0)) aNil)) aNil))) (aCons (eC (.int 2)) aNil))) (aCons (eTup (aCons (eTup (aCons (eTup (aCons (eC (.int 0)) (aCons (eC (.int 0)) aNil))) aNil)) (aCons (eTup (aCons (eTup (aCons (eC (.int 0)) (aCons (eC (.int 1)) aNil))) (aCons (eTup (aCons (eC (.int 1)) (aCons (eC (.int 0)) aNil))) (aCons (eTup (aCons (eC (.int 1)) (aCons (eC (.int 1)) aNil))) aNil)))) aNil))) aNil)))))
  (mRet (eC (.bool false)))
  mNext)
  (mRet (eCall M__law_same (aCons (eCallK M_product_sums 0 4 [3, 2, 1, 0] aNil (aCons (eTup (aCons (eC (.int 1)) (aCons (eC (.int 0)) aNil))) (aCons (eTup (aCons (eC (.int 1)) (aCons (eC (.int 1)) aNil))) (aCons (eTup (aCons (eTup aNil) (aCons (eTup (aCons (eC (.int 0)) aNil)) aNil))) (aCons (eC (.int 2)) aNil))))) (aCons (eTup (aCons (eC (.int 1)) (aCons (eC (.int 1)) aNil))) aNil))))))))))
def M__law_by_hand : List D → Rs D := fnM 0 0 m__law_by_hand
/-- slots: 0 _law_state, 1 _law_many, 2 _law_turn -/
def m__law_bits : Sm :=
  (mRet (eN fTuple (aCons (eL (lLc (imRng rng1 (aCons (eVar 1) aNil)) [2] (gmName 2) tmYes (eCallD M__law_draw 0 (aCons (eC (.int 2)) aNil)))) aNil)))
def M__law_bits : MO → List D → Rs (D × MO) := fnD 3 2 m__law_bits
/-- slots: 0 _law_state, 1 _law_bit, 2 _law_wide, 3 _law_throws, 4 _law_due, 5 _law_turn -/
def m__law_pieces : Sm :=
  (mSeq (mAsg (gmName 2) (eC (.int 5)))
  (mSeq (mIf (tmB (e2 fEq (eCallD M__law_draw 0 (aCons (eC (.int 12)) aNil)) (eC (.int 7))))
  (mAsg (gmName 2) (eC (.int 41)))
  mNext)
  (mSeq (mAsg (gmName 3) (eCallD M__law_bits 0 (aCons (eCallD M__law_draw 0 (aCons (e2 fAdd (eVar 2) (eC (.int 1))) aNil)) aNil)))
  (mSeq (mAsg (gmName 4) (e2 fAdd (eVar 3) (eTup (aCons (e2 fMod (eN fInt (aCons (e2 fAdd (eVar 1) (eN fSumT (aCons (eVar 3) aNil))) aNil)) (eC (.int 2))) aNil))))
  (mSeq (mFor (imRng rng1 (aCons (eC (.int 2)) aNil)) (gmName 5)
  (mIf (tmOr (tmNot (tmTru (eCall M__law_same (aCons (eCall M_pieces_of (aCons (eVar 1) (aCons (eVar 3) aNil))) (aCons (eVar 4) aNil))))) (tmNot (tmTru (eCall M__law_same (aCons (eCall M_bit_of (aCons (eVar 4) aNil)) (aCons (eVar 1) aNil))))))
  (mRet (eC (.bool false)))
  mNext))
  (mRet (eCall M__law_same (aCons (eCall M_bit_of (aCons (eVar 3) aNil)) (aCons (e2 fMod (eN fInt (aCons (eN fSumT (aCons (eVar 3) aNil)) aNil)) (eC (.int 2))) aNil)))))))))
def M__law_pieces : MO → List D → Rs (D × MO) := fnD 6 2 m__law_pieces
/-- slots: 0 _law_many, 1 _law_one, 2 _law_other, 3 _law_house -/
def m__law_helper : Sm :=
  (mSeq (mFor (imRng rng1 (aCons (eVar 0) aNil)) (gmName 3)
  (mIf (tmAnd (tmB (e2 fNotIn (eVar 3) (eVar 1))) (tmB (e2 fNotIn (eVar 3) (eVar 2))))
  (mRet (eVar 3))
  mNext))
  (mRet (eC .none)))
def M__law_helper : List D → Rs D := fnM 4 3 m__law_helper
/-- slots: 0 _law_many, 1 _law_lots_here, 2 _law_rows, 3 _law_k, 4 _law_j, 5 _law_house, 6 _law_row -/
def m__law_dealt : Sm :=
  (mSeq (mAsgW 2 (wLc (imRng rng1 (aCons (eVar 0) aNil)) [5] (gmName 5) tmYes (lLst aNil)))
  (mSeq (mFor (imRng rng1 (aCons (eN fLen (aCons (eVar 1) aNil)) aNil)) (gmName 3)
  (mFor (imRng rng1 (aCons (eN fLen (aCons (eVar 1) aNil)) aNil)) (gmName 4)
  (mSeq (mAsg (gmName 5) (eCall M__law_helper (aCons (eVar 0) (aCons (e2 fIx (eVar 1) (eVar 3)) (aCons (e2 fIx (eVar 1) (eVar 4)) aNil)))))
  (mSeq (mIf (tmB (e2 fIs (eVar 5) (eC .none)))
  (mRet (eC .none))
  mNext)
  (mAppLL 2 (eVar 5) (eTup (aCons (eVar 3) (aCons (eVar 4) aNil))))))))
  (mRet (eN fTuple (aCons (eL (lLc (imSeq (eFrz 2)) [6] (gmName 6) tmYes (eN fTuple (aCons (eVar 6) aNil)))) aNil)))))
def M__law_dealt : List D → Rs D := fnM 7 2 m__law_dealt
/-- slots: 0 _law_dealt_here, 1 _law_one, 2 _law_other, 3 _law_sums_here, 4 _law_pairs, 5 _law_total, 6 _law_pair -/
def m__law_sums : Sm :=
  (mSeq (mAsgO 3 (lLst aNil))
  (mSeq (mFor (imSeq (eVar 0)) (gmName 4)
  (mSeq (mAsg (gmName 5) (eC (.int 0)))
  (mSeq (mFor (imSeq (eVar 4)) (gmName 6)
  (mAsg (gmName 5) (e2 fAdd (eVar 5) (e2 fMul (e2 fIx (eVar 1) (e2 fIx (eVar 6) (eC (.int 0)))) (e2 fIx (eVar 2) (e2 fIx (eVar 6) (eC (.int 1))))))))
  (mApp 3 (e2 fMod (eN fInt (aCons (eVar 5) aNil)) (eC (.int 2)))))))
  (mRet (eN fTuple (aCons (eVar 3) aNil)))))
def M__law_sums : List D → Rs D := fnM 7 3 m__law_sums
/-- slots: 0 _law_state, 1 _law_many, 2 _law_lots_here, 3 _law_one, 4 _law_other, 5 _law_k, 6 _law_dealt_here, 7 _law_told, 8 _law_j -/
def m__law_products : Sm :=
  (mSeq (mAsg (gmName 3) (eCallD M__law_bits 0 (aCons (eN fLen (aCons (eVar 2) aNil)) aNil)))
  (mSeq (mAsg (gmName 4) (eCallD M__law_bits 0 (aCons (eN fLen (aCons (eVar 2) aNil)) aNil)))
  (mSeq (mFor (imRng rng1 (aCons (eN fLen (aCons (eVar 2) aNil)) aNil)) (gmName 5)
  (mFor (imRng rng1 (aCons (eN fLen (aCons (eVar 2) aNil)) aNil)) (gmName 8)
  (mIf (tmNot (tmTru (eCall M__law_same (aCons (eCall M_helper_of (aCons (eVar 1) (aCons (e2 fIx (eVar 2) (eVar 5)) (aCons (e2 fIx (eVar 2) (eVar 8)) aNil)))) (aCons (eCall M__law_helper (aCons (eVar 1) (aCons (e2 fIx (eVar 2) (eVar 5)) (aCons (e2 fIx (eVar 2) (eVar 8)) aNil)))) aNil)))))
  (mRet (eC (.bool false)))
  mNext)))
  (mSeq (mAsg (gmName 6) (eCall M__law_dealt (aCons (eVar 1) (aCons (eVar 2) aNil))))
  (mSeq (mIf (tmB (e2 fIs (eVar 6) (eC .none)))
  (mRet (eAnd (eAsk M__law_refused 0 (aCons (eC (.str "lots")) aNil) (eCall M_dealt_pairs (aCons (eVar 1) (aCons (eVar 2) aNil)))) (eAnd (eAsk M__law_refused 0 (aCons (eC (.str "lots")) aNil) (eCall M_product_sums (aCons (eVar 1) (aCons (eVar 2) (aCons (eVar 3) (aCons (eVar 4) aNil)))))) (eAsk M__law_refused 0 (aCons (eC (.str "lots")) aNil) (eCall M_product_sums (aCons (eVar 1) (aCons (eVar 2) (aCons (eVar 3) (aCons (eC .none) aNil)))))))))
  mNext)
  (mSeq (mIf (tmNot (tmTru (eCall M__law_same (aCons (eCall M_dealt_pairs (aCons (eVar 1) (aCons (eVar 2) aNil))) (aCons (eVar 6) aNil)))))
  (mRet (eC (.bool false)))
  mNext)
  (mSeq (mAsg (gmName 7) (eCall M_product_sums (aCons (eVar 1) (aCons (eVar 2) (aCons (eVar 3) (aCons (eVar 4) aNil))))))
  (mSeq (mIf (tmNot (tmTru (eCall M__law_same (aCons (eVar 7) (aCons (eCall M__law_sums (aCons (eVar 6) (aCons (eVar 3) (aCons (eVar 4) aNil)))) aNil)))))
  (mRet (eC (.bool false)))
  mNext)
  (mSeq (mIf (tmB (e2 fNe (e2 fMod (eN fInt (aCons (eN fSumT (aCons (eVar 7) aNil)) aNil)) (eC (.int 2))) (e2 fMul (e2 fMod (eN fInt (aCons (eN fSumT (aCons (eVar 3) aNil)) aNil)) (eC (.int 2))) (e2 fMod (eN fInt (aCons (eN fSumT (aCons (eVar 4) aNil)) aNil)) (eC (.int 2))))))
  (mRet (eC (.bool false)))
  mNext)
  (mRet (eCall M__law_same (aCons (eCall M_product_sums (aCons (eVar 1) (aCons (eVar 2) (aCons (eVar 4) (aCons (eVar 3) aNil))))) (aCons (eCall M__law_sums (aCons (eVar 6) (aCons (eVar 4) (aCons (eVar 3) aNil)))) aNil)))))))))))))
def M__law_products : MO → List D → Rs (D × MO) := fnD 9 3 m__law_products
/-- slots: 0 _law_lot, 1 _law_wide, 2 _law_house -/
def m__law_within : Sm :=
  (mSeq (mFor (imSeq (eVar 0)) (gmName 2)
  (mIf (tmB (e2 fNotIn (eVar 2) (eVar 1)))
  (mRet (eC (.bool false)))
  mNext))
  (mRet (eC (.bool true))))
def M__law_within : List D → Rs D := fnM 3 2 m__law_within
/-- slots: 0 _law_lots_here, 1 _law_house, 2 _law_pieces_here, 3 _law_k -/
def m__law_gets : Sm :=
  (mRet (eN fTuple (aCons (eL (lLc (imRng rng1 (aCons (eN fLen (aCons (eVar 0) aNil)) aNil)) [3] (gmName 3) (tmB (e2 fNotIn (eVar 1) (e2 fIx (eVar 0) (eVar 3)))) (e2 fIx (eVar 2) (eVar 3)))) aNil)))
def M__law_gets : List D → Rs D := fnM 4 3 m__law_gets
/-- slots: 0 _law_state, 1 _law_many, 2 _law_lots_here, 3 _law_rows, 4 _law_k, 5 _law_lot, 6 _law_tally, 7 _law_row, 8 _law_blind, 9 _law_view, 10 _law_house, 11 _law_counts, 12 _law_bit, 13 _law_gets_here -/
def m__law_seen : Sm :=
  (mSeq (mAsg (gmName 3) (eL (lLst (aCons (eTup aNil) aNil))))
  (mSeq (mFor (imRng rng1 (aCons (eN fLen (aCons (eVar 2) aNil)) aNil)) (gmName 4)
  (mAsg (gmName 3) (e2 fAdd (eL (lLc (imSeq (eVar 3)) [7] (gmName 7) tmYes (e2 fAdd (eVar 7) (eTup (aCons (eC (.int 0)) aNil))))) (eL (lLc (imSeq (eVar 3)) [7] (gmName 7) tmYes (e2 fAdd (eVar 7) (eTup (aCons (eC (.int 1)) aNil))))))))
  (mSeq (mIf (tmB (e2 fGt (eN fLen (aCons (eVar 2) aNil)) (eC (.int 4))))
  (mAsg (gmName 3) (eL (lLst (aCons (e2 fIx (eVar 3) (eCallD M__law_draw 0 (aCons (eC (.int 32)) aNil))) (aCons (e2 fIx (eVar 3) (eCallD M__law_draw 0 (aCons (eC (.int 32)) aNil))) aNil)))))
  mNext)
  (mSeq (mAsg (gmName 5) (eN fTuple (aCons (eL (lLc (imRng rng1 (aCons (eVar 1) aNil)) [10] (gmName 10) (tmB (e2 fEq (eCallD M__law_draw 0 (aCons (eC (.int 2)) aNil)) (eC (.int 1)))) (eVar 10))) aNil)))
  (mSeq (mIf (tmB (e2 fEq (eCallD M__law_draw 0 (aCons (eC (.int 2)) aNil)) (eC (.int 1))))
  (mAsg (gmName 5) (eN fTuple (aCons (eL (lLc (imSeq (e2 fIx (eVar 2) (eCallD M__law_draw 0 (aCons (eN fLen (aCons (eVar 2) aNil)) aNil)))) [10] (gmName 10) (tmB (e2 fGt (eCallD M__law_draw 0 (aCons (eC (.int 4)) aNil)) (eC (.int 0)))) (eVar 10))) aNil)))
  mNext)
  (mSeq (mNewV 6)
  (mSeq (mFor (imSeq (eVar 3)) (gmName 7)
  (mSeq (mAsg (gmName 9) (eTup aNil))
  (mSeq (mFor (imRng rng1 (aCons (eVar 1) aNil)) (gmName 10)
  (mSeq (mAsg (gmName 13) (eCall M_gets_of (aCons (eVar 1) (aCons (eVar 2) (aCons (eVar 10) (aCons (eVar 7) aNil))))))
  (mSeq (mIf (tmNot (tmTru (eCall M__law_same (aCons (eVar 13) (aCons (eCall M__law_gets (aCons (eVar 2) (aCons (eVar 10) (aCons (eVar 7) aNil)))) aNil)))))
  (mRet (eC (.bool false)))
  mNext)
  (mIf (tmB (e2 fIn (eVar 10) (eVar 5)))
  (mAsg (gmName 9) (e2 fAdd (eVar 9) (eTup (aCons (eVar 13) aNil))))
  mNext))))
  (mSeq (mAsg (gmName 11) (eGetDV 6 (eVar 9) (eTup (aCons (eC (.int 0)) (aCons (eC (.int 0)) aNil)))))
  (mSeq (mAsg (gmName 12) (e2 fMod (eN fInt (aCons (eN fSumT (aCons (eVar 7) aNil)) aNil)) (eC (.int 2))))
  (mPutV 6 (eVar 9) (eTup (aCons (e2 fSub (e2 fAdd (e2 fIx (eVar 11) (eC (.int 0))) (eC (.int 1))) (eVar 12)) (aCons (e2 fAdd (e2 fIx (eVar 11) (eC (.int 1))) (eVar 12)) aNil)))))))))
  (mSeq (mIf (tmB (e2 fGt (eN fLen (aCons (eVar 2) aNil)) (eC (.int 4))))
  (mRet (eC (.bool true)))
  mNext)
  (mSeq (mAsg (gmName 8) (eN fLen (aCons (eL (lLc (imRng rng1 (aCons (eN fLen (aCons (eVar 2) aNil)) aNil)) [4] (gmName 4) (tmTru (eCall M__law_within (aCons (eVar 5) (aCons (e2 fIx (eVar 2) (eVar 4)) aNil)))) (eVar 4))) aNil)))
  (mSeq (mFor (imSeq (eL (lKeysD 6))) (gmName 9)
  (mSeq (mIf (tmAnd (tmB (e2 fGt (eVar 8) (eC (.int 0)))) (tmB (e2 fNe (e2 fIx (eGetV 6 (eVar 9)) (eC (.int 0))) (e2 fIx (eGetV 6 (eVar 9)) (eC (.int 1))))))
  (mRet (eC (.bool false)))
  mNext)
  (mIf (tmAnd (tmB (e2 fEq (eVar 8) (eC (.int 0)))) (tmB (e2 fNe (e2 fAdd (e2 fIx (eGetV 6 (eVar 9)) (eC (.int 0))) (e2 fIx (eGetV 6 (eVar 9)) (eC (.int 1)))) (eC (.int 1)))))
  (mRet (eC (.bool false)))
  mNext)))
  (mRet (eC (.bool true)))))))))))))
def M__law_seen : MO → List D → Rs (D × MO) := fnD 14 3 m__law_seen
/-- slots: 0 _law_script, 1 _law_state, 2 _law_many, 3 _law_lots_here -/
def m_law : Sm :=
  (mSeq (mAsgT 1 (lCall M__law_start (aCons (eScr 0) aNil)))
  (mSeq (mAsg (gmName 2) (e2 fAdd (eC (.int 1)) (eCallD M__law_draw 1 (aCons (eC (.int 6)) aNil))))
  (mSeq (mAsg (gmName 3) (eCallD M__law_lots 1 (aCons (eVar 2) aNil)))
  (mSeq (mIf (tmOr (tmNot (tmTru (eCall M__law_by_hand aNil))) (tmNot (tmTru (eCallD M__law_pieces 1 (aCons (eCallD M__law_draw 1 (aCons (eC (.int 2)) aNil)) aNil)))))
  (mRet (eC (.bool false)))
  mNext)
  (mSeq (mIf (tmOr (tmNot (tmTru (eCallD M__law_products 1 (aCons (eVar 2) (aCons (eVar 3) aNil))))) (tmNot (tmTru (eCallD M__law_seen 1 (aCons (eVar 2) (aCons (eVar 3) aNil))))))
  (mRet (eC (.bool false)))
  mNext)
  (mRet (eCallD M__law_refusals 1 (aCons (eVar 2) (aCons (eVar 3) aNil)))))))))
def M_law : List D → Rs D := fnL 4 m_law
end K24
end
section
set_option Elab.async false
set_option linter.all false
set_option maxRecDepth 100000
set_option maxHeartbeats 4000000
namespace K24
open PySem PySem.Spec PyProof.Rows L2 Mir
def top (i : Nat) : Stmt := PySem.Challenge.pw_closereckoned_k24_whole_pieces_and_produ.main.body.getD i (.Pass ⟨0, 0, 0, 0⟩)
abbrev s__law_start : Stmt := top 32
abbrev N__law_start : List Str := [("_law_script" : Str)]
def d__law_start : He.DefD := ⟨("_law_start", none), "_law_start", "_law_start", defArgs s__law_start, defBody s__law_start, defScope s__law_start, [], []⟩
theorem sc__law_start : FnScope N__law_start [("_law_script" : Str)] d__law_start.scope := ⟨rfl, rfl, rfl, by decide +kernel, rfl, by decide +kernel, by decide +kernel⟩
abbrev s__law_draw : Stmt := top 33
abbrev N__law_draw : List Str := [("_law_state" : Str), ("_law_many" : Str), ("_law_number" : Str), ("_law_cell" : Str)]
def d__law_draw : He.DefD := ⟨("_law_draw", none), "_law_draw", "_law_draw", defArgs s__law_draw, defBody s__law_draw, defScope s__law_draw, [], []⟩
theorem sc__law_draw : FnScope N__law_draw [("_law_state" : Str), ("_law_many" : Str)] d__law_draw.scope := ⟨rfl, rfl, rfl, by decide +kernel, rfl, by decide +kernel, by decide +kernel⟩
abbrev s__law_lots : Stmt := top 35
abbrev N__law_lots : List Str := [("_law_state" : Str), ("_law_many" : Str), ("_law_shape" : Str), ("_law_spared" : Str), ("_law_lots_here" : Str), ("_law_turn" : Str), ("_law_lot" : Str), ("_law_house" : Str), ("_law_small" : Str)]
def d__law_lots : He.DefD := ⟨("_law_lots", none), "_law_lots", "_law_lots", defArgs s__law_lots, defBody s__law_lots, defScope s__law_lots, [], []⟩
theorem sc__law_lots : FnScope N__law_lots [("_law_state" : Str), ("_law_many" : Str)] d__law_lots.scope := ⟨rfl, rfl, rfl, by decide +kernel, rfl, by decide +kernel, by decide +kernel⟩
abbrev s__law_odd_lots : Stmt := top 47
abbrev N__law_odd_lots : List Str := [("_law_many" : Str)]
def d__law_odd_lots : He.DefD := ⟨("_law_odd_lots", none), "_law_odd_lots", "_law_odd_lots", defArgs s__law_odd_lots, defBody s__law_odd_lots, defScope s__law_odd_lots, [], []⟩
theorem sc__law_odd_lots : FnScope N__law_odd_lots [("_law_many" : Str)] d__law_odd_lots.scope := ⟨rfl, rfl, rfl, by decide +kernel, rfl, by decide +kernel, by decide +kernel⟩
abbrev s__law_odd_bits : Stmt := top 48
abbrev N__law_odd_bits : List Str := [("_law_many" : Str)]
def d__law_odd_bits : He.DefD := ⟨("_law_odd_bits", none), "_law_odd_bits", "_law_odd_bits", defArgs s__law_odd_bits, defBody s__law_odd_bits, defScope s__law_odd_bits, [], []⟩
theorem sc__law_odd_bits : FnScope N__law_odd_bits [("_law_many" : Str)] d__law_odd_bits.scope := ⟨rfl, rfl, rfl, by decide +kernel, rfl, by decide +kernel, by decide +kernel⟩
abbrev s__law_same : Stmt := top 41
abbrev N__law_same : List Str := [("_law_told" : Str), ("_law_due" : Str), ("_law_k" : Str)]
def d__law_same : He.DefD := ⟨("_law_same", none), "_law_same", "_law_same", defArgs s__law_same, defBody s__law_same, defScope s__law_same, [], []⟩
theorem sc__law_same : FnScope N__law_same [("_law_told" : Str), ("_law_due" : Str)] d__law_same.scope := ⟨rfl, rfl, rfl, by decide +kernel, rfl, by decide +kernel, by decide +kernel⟩
abbrev s_a_want : Stmt := top 5
abbrev N_a_want : List Str := [("good" : Str), ("word" : Str)]
def d_a_want : He.DefD := ⟨("a_want", none), "a_want", "a_want", defArgs s_a_want, defBody s_a_want, defScope s_a_want, [], []⟩
theorem sc_a_want : FnScope N_a_want [("good" : Str), ("word" : Str)] d_a_want.scope := ⟨rfl, rfl, rfl, by decide +kernel, rfl, by decide +kernel, by decide +kernel⟩
abbrev s_integer_fits : Stmt := top 6
abbrev N_integer_fits : List Str := [("thing" : Str)]
def d_integer_fits : He.DefD := ⟨("integer_fits", none), "integer_fits", "integer_fits", defArgs s_integer_fits, defBody s_integer_fits, defScope s_integer_fits, [], []⟩
theorem sc_integer_fits : FnScope N_integer_fits [("thing" : Str)] d_integer_fits.scope := ⟨rfl, rfl, rfl, by decide +kernel, rfl, by decide +kernel, by decide +kernel⟩
abbrev s_is_integer : Stmt := top 13
abbrev N_is_integer : List Str := [("thing" : Str)]
def d_is_integer : He.DefD := ⟨("is_integer", none), "is_integer", "is_integer", defArgs s_is_integer, defBody s_is_integer, defScope s_is_integer, [], []⟩
theorem sc_is_integer : FnScope N_is_integer [("thing" : Str)] d_is_integer.scope := ⟨rfl, rfl, rfl, by decide +kernel, rfl, by decide +kernel, by decide +kernel⟩
abbrev s_want_many : Stmt := top 19
abbrev N_want_many : List Str := [("many" : Str)]
def d_want_many : He.DefD := ⟨("want_many", none), "want_many", "want_many", defArgs s_want_many, defBody s_want_many, defScope s_want_many, [], []⟩
theorem sc_want_many : FnScope N_want_many [("many" : Str)] d_want_many.scope := ⟨rfl, rfl, rfl, by decide +kernel, rfl, by decide +kernel, by decide +kernel⟩
abbrev s_number_fits : Stmt := top 7
abbrev N_number_fits : List Str := [("thing" : Str)]
def d_number_fits : He.DefD := ⟨("number_fits", none), "number_fits", "number_fits", defArgs s_number_fits, defBody s_number_fits, defScope s_number_fits, [], []⟩
theorem sc_number_fits : FnScope N_number_fits [("thing" : Str)] d_number_fits.scope := ⟨rfl, rfl, rfl, by decide +kernel, rfl, by decide +kernel, by decide +kernel⟩
abbrev s_house_fits : Stmt := top 9
abbrev N_house_fits : List Str := [("many" : Str), ("thing" : Str)]
def d_house_fits : He.DefD := ⟨("house_fits", none), "house_fits", "house_fits", defArgs s_house_fits, defBody s_house_fits, defScope s_house_fits, [], []⟩
theorem sc_house_fits : FnScope N_house_fits [("many" : Str), ("thing" : Str)] d_house_fits.scope := ⟨rfl, rfl, rfl, by decide +kernel, rfl, by decide +kernel, by decide +kernel⟩
abbrev s_lot_fits : Stmt := top 10
abbrev N_lot_fits : List Str := [("many" : Str), ("thing" : Str), ("last" : Str), ("house" : Str)]
def d_lot_fits : He.DefD := ⟨("lot_fits", none), "lot_fits", "lot_fits", defArgs s_lot_fits, defBody s_lot_fits, defScope s_lot_fits, [], []⟩
theorem sc_lot_fits : FnScope N_lot_fits [("many" : Str), ("thing" : Str)] d_lot_fits.scope := ⟨rfl, rfl, rfl, by decide +kernel, rfl, by decide +kernel, by decide +kernel⟩
abbrev s_is_lots : Stmt := top 11
abbrev N_is_lots : List Str := [("many" : Str), ("thing" : Str), ("lot" : Str)]
def d_is_lots : He.DefD := ⟨("is_lots", none), "is_lots", "is_lots", defArgs s_is_lots, defBody s_is_lots, defScope s_is_lots, [], []⟩
theorem sc_is_lots : FnScope N_is_lots [("many" : Str), ("thing" : Str)] d_is_lots.scope := ⟨rfl, rfl, rfl, by decide +kernel, rfl, by decide +kernel, by decide +kernel⟩
abbrev s_want_lots : Stmt := top 20
abbrev N_want_lots : List Str := [("many" : Str), ("lots" : Str)]
def d_want_lots : He.DefD := ⟨("want_lots", none), "want_lots", "want_lots", defArgs s_want_lots, defBody s_want_lots, defScope s_want_lots, [], []⟩
theorem sc_want_lots : FnScope N_want_lots [("many" : Str), ("lots" : Str)] d_want_lots.scope := ⟨rfl, rfl, rfl, by decide +kernel, rfl, by decide +kernel, by decide +kernel⟩
abbrev s_least_outside : Stmt := top 21
abbrev N_least_outside : List Str := [("many" : Str), ("one" : Str), ("other" : Str), ("house" : Str)]
def d_least_outside : He.DefD := ⟨("least_outside", none), "least_outside", "least_outside", defArgs s_least_outside, defBody s_least_outside, defScope s_least_outside, [], []⟩
theorem sc_least_outside : FnScope N_least_outside [("many" : Str), ("one" : Str), ("other" : Str)] d_least_outside.scope := ⟨rfl, rfl, rfl, by decide +kernel, rfl, by decide +kernel, by decide +kernel⟩
abbrev s_dealt_to : Stmt := top 22
abbrev N_dealt_to : List Str := [("many" : Str), ("lots" : Str), ("dealt" : Str), ("k" : Str), ("j" : Str), ("_" : Str), ("house" : Str), ("pairs" : Str)]
def d_dealt_to : He.DefD := ⟨("dealt_to", none), "dealt_to", "dealt_to", defArgs s_dealt_to, defBody s_dealt_to, defScope s_dealt_to, [], []⟩
theorem sc_dealt_to : FnScope N_dealt_to [("many" : Str), ("lots" : Str)] d_dealt_to.scope := ⟨rfl, rfl, rfl, by decide +kernel, rfl, by decide +kernel, by decide +kernel⟩
abbrev s_dealt_pairs : Stmt := top 25
abbrev N_dealt_pairs : List Str := [("many" : Str), ("lots" : Str), ("dealt" : Str)]
def d_dealt_pairs : He.DefD := ⟨("dealt_pairs", none), "dealt_pairs", "dealt_pairs", defArgs s_dealt_pairs, defBody s_dealt_pairs, defScope s_dealt_pairs, [], []⟩
theorem sc_dealt_pairs : FnScope N_dealt_pairs [("many" : Str), ("lots" : Str)] d_dealt_pairs.scope := ⟨rfl, rfl, rfl, by decide +kernel, rfl, by decide +kernel, by decide +kernel⟩
abbrev s_is_bit : Stmt := top 15
abbrev N_is_bit : List Str := [("thing" : Str)]
def d_is_bit : He.DefD := ⟨("is_bit", none), "is_bit", "is_bit", defArgs s_is_bit, defBody s_is_bit, defScope s_is_bit, [], []⟩
theorem sc_is_bit : FnScope N_is_bit [("thing" : Str)] d_is_bit.scope := ⟨rfl, rfl, rfl, by decide +kernel, rfl, by decide +kernel, by decide +kernel⟩
abbrev s_is_bits : Stmt := top 18
abbrev N_is_bits : List Str := [("thing" : Str), ("bit" : Str)]
def d_is_bits : He.DefD := ⟨("is_bits", none), "is_bits", "is_bits", defArgs s_is_bits, defBody s_is_bits, defScope s_is_bits, [], []⟩
theorem sc_is_bits : FnScope N_is_bits [("thing" : Str)] d_is_bits.scope := ⟨rfl, rfl, rfl, by decide +kernel, rfl, by decide +kernel, by decide +kernel⟩
abbrev s_product_sums : Stmt := top 26
abbrev N_product_sums : List Str := [("many" : Str), ("lots" : Str), ("one" : Str), ("other" : Str), ("dealt" : Str), ("pairs" : Str), ("k" : Str), ("j" : Str)]
def d_product_sums : He.DefD := ⟨("product_sums", none), "product_sums", "product_sums", defArgs s_product_sums, defBody s_product_sums, defScope s_product_sums, [], []⟩
theorem sc_product_sums : FnScope N_product_sums [("many" : Str), ("lots" : Str), ("one" : Str), ("other" : Str)] d_product_sums.scope := ⟨rfl, rfl, rfl, by decide +kernel, rfl, by decide +kernel, by decide +kernel⟩
abbrev s__law_refused : Stmt := top 42
abbrev N__law_refused : List Str := [("_law_word" : Str), ("_law_ask" : Str), ("e" : Str)]
def d__law_refused : He.DefD := ⟨("_law_refused", none), "_law_refused", "_law_refused", defArgs s__law_refused, defBody s__law_refused, defScope s__law_refused, [], []⟩
theorem sc__law_refused : FnScope N__law_refused [("_law_word" : Str), ("_law_ask" : Str)] d__law_refused.scope := ⟨rfl, rfl, rfl, by decide +kernel, rfl, by decide +kernel, by decide +kernel⟩
abbrev s_is_number : Stmt := top 14
abbrev N_is_number : List Str := [("thing" : Str)]
def d_is_number : He.DefD := ⟨("is_number", none), "is_number", "is_number", defArgs s_is_number, defBody s_is_number, defScope s_is_number, [], []⟩
theorem sc_is_number : FnScope N_is_number [("thing" : Str)] d_is_number.scope := ⟨rfl, rfl, rfl, by decide +kernel, rfl, by decide +kernel, by decide +kernel⟩
abbrev s_gets_of : Stmt := top 30
abbrev N_gets_of : List Str := [("many" : Str), ("lots" : Str), ("house" : Str), ("pieces" : Str), ("k" : Str)]
def d_gets_of : He.DefD := ⟨("gets_of", none), "gets_of", "gets_of", defArgs s_gets_of, defBody s_gets_of, defScope s_gets_of, [], []⟩
theorem sc_gets_of : FnScope N_gets_of [("many" : Str), ("lots" : Str), ("house" : Str), ("pieces" : Str)] d_gets_of.scope := ⟨rfl, rfl, rfl, by decide +kernel, rfl, by decide +kernel, by decide +kernel⟩
abbrev s_many_fits : Stmt := top 8
abbrev N_many_fits : List Str := [("thing" : Str)]
def d_many_fits : He.DefD := ⟨("many_fits", none), "many_fits", "many_fits", defArgs s_many_fits, defBody s_many_fits, defScope s_many_fits, [], []⟩
theorem sc_many_fits : FnScope N_many_fits [("thing" : Str)] d_many_fits.scope := ⟨rfl, rfl, rfl, by decide +kernel, rfl, by decide +kernel, by decide +kernel⟩
abbrev s_is_lot : Stmt := top 16
abbrev N_is_lot : List Str := [("many" : Str), ("thing" : Str)]
def d_is_lot : He.DefD := ⟨("is_lot", none), "is_lot", "is_lot", defArgs s_is_lot, defBody s_is_lot, defScope s_is_lot, [], []⟩
theorem sc_is_lot : FnScope N_is_lot [("many" : Str), ("thing" : Str)] d_is_lot.scope := ⟨rfl, rfl, rfl, by decide +kernel, rfl, by decide +kernel, by decide +kernel⟩
abbrev s_helper_of : Stmt := top 24
abbrev N_helper_of : List Str := [("many" : Str), ("one" : Str), ("other" : Str)]
def d_helper_of : He.DefD := ⟨("helper_of", none), "helper_of", "helper_of", defArgs s_helper_of, defBody s_helper_of, defScope s_helper_of, [], []⟩
theorem sc_helper_of : FnScope N_helper_of [("many" : Str), ("one" : Str), ("other" : Str)] d_helper_of.scope := ⟨rfl, rfl, rfl, by decide +kernel, rfl, by decide +kernel, by decide +kernel⟩
abbrev s__law_later_refusals : Stmt := top 50
abbrev N__law_later_refusals : List Str := [("_law_state" : Str), ("_law_many" : Str), ("_law_lots_here" : Str), ("_law_row" : Str), ("_law_odd" : Str), ("_law_spared" : Str), ("_law_whole" : Str), ("_law_half" : Str), ("_law_rest" : Str), ("_law_bad" : Str), ("_law_house" : Str)]
def d__law_later_refusals : He.DefD := ⟨("_law_later_refusals", none), "_law_later_refusals", "_law_later_refusals", defArgs s__law_later_refusals, defBody s__law_later_refusals, defScope s__law_later_refusals, [], []⟩
theorem sc__law_later_refusals : FnScope N__law_later_refusals [("_law_state" : Str), ("_law_many" : Str), ("_law_lots_here" : Str), ("_law_row" : Str)] d__law_later_refusals.scope := ⟨rfl, rfl, rfl, by decide +kernel, rfl, by decide +kernel, by decide +kernel⟩
abbrev s_pieces_of : Stmt := top 28
abbrev N_pieces_of : List Str := [("bit" : Str), ("throws" : Str)]
def d_pieces_of : He.DefD := ⟨("pieces_of", none), "pieces_of", "pieces_of", defArgs s_pieces_of, defBody s_pieces_of, defScope s_pieces_of, [], []⟩
theorem sc_pieces_of : FnScope N_pieces_of [("bit" : Str), ("throws" : Str)] d_pieces_of.scope := ⟨rfl, rfl, rfl, by decide +kernel, rfl, by decide +kernel, by decide +kernel⟩
abbrev s_bit_of : Stmt := top 29
abbrev N_bit_of : List Str := [("pieces" : Str)]
def d_bit_of : He.DefD := ⟨("bit_of", none), "bit_of", "bit_of", defArgs s_bit_of, defBody s_bit_of, defScope s_bit_of, [], []⟩
theorem sc_bit_of : FnScope N_bit_of [("pieces" : Str)] d_bit_of.scope := ⟨rfl, rfl, rfl, by decide +kernel, rfl, by decide +kernel, by decide +kernel⟩
abbrev s__law_refusals : Stmt := top 49
abbrev N__law_refusals : List Str := [("_law_state" : Str), ("_law_many" : Str), ("_law_lots_here" : Str), ("_law_row" : Str), ("_law_odd" : Str)]
def d__law_refusals : He.DefD := ⟨("_law_refusals", none), "_law_refusals", "_law_refusals", defArgs s__law_refusals, defBody s__law_refusals, defScope s__law_refusals, [], []⟩
theorem sc__law_refusals : FnScope N__law_refusals [("_law_state" : Str), ("_law_many" : Str), ("_law_lots_here" : Str)] d__law_refusals.scope := ⟨rfl, rfl, rfl, by decide +kernel, rfl, by decide +kernel, by decide +kernel⟩
abbrev s__law_by_hand : Stmt := top 43
abbrev N__law_by_hand : List Str := []
def d__law_by_hand : He.DefD := ⟨("_law_by_hand", none), "_law_by_hand", "_law_by_hand", defArgs s__law_by_hand, defBody s__law_by_hand, defScope s__law_by_hand, [], []⟩
theorem sc__law_by_hand : FnScope N__law_by_hand [] d__law_by_hand.scope := ⟨rfl, rfl, rfl, by decide +kernel, rfl, by decide +kernel, by decide +kernel⟩
abbrev s__law_bits : Stmt := top 34
abbrev N__law_bits : List Str := [("_law_state" : Str), ("_law_many" : Str), ("_law_turn" : Str)]
def d__law_bits : He.DefD := ⟨("_law_bits", none), "_law_bits", "_law_bits", defArgs s__law_bits, defBody s__law_bits, defScope s__law_bits, [], []⟩
theorem sc__law_bits : FnScope N__law_bits [("_law_state" : Str), ("_law_many" : Str)] d__law_bits.scope := ⟨rfl, rfl, rfl, by decide +kernel, rfl, by decide +kernel, by decide +kernel⟩
abbrev s__law_pieces : Stmt := top 44
abbrev N__law_pieces : List Str := [("_law_state" : Str), ("_law_bit" : Str), ("_law_wide" : Str), ("_law_throws" : Str), ("_law_due" : Str), ("_law_turn" : Str)]
def d__law_pieces : He.DefD := ⟨("_law_pieces", none), "_law_pieces", "_law_pieces", defArgs s__law_pieces, defBody s__law_pieces, defScope s__law_pieces, [], []⟩
theorem sc__law_pieces : FnScope N__law_pieces [("_law_state" : Str), ("_law_bit" : Str)] d__law_pieces.scope := ⟨rfl, rfl, rfl, by decide +kernel, rfl, by decide +kernel, by decide +kernel⟩
abbrev s__law_helper : Stmt := top 37
abbrev N__law_helper : List Str := [("_law_many" : Str), ("_law_one" : Str), ("_law_other" : Str), ("_law_house" : Str)]
def d__law_helper : He.DefD := ⟨("_law_helper", none), "_law_helper", "_law_helper", defArgs s__law_helper, defBody s__law_helper, defScope s__law_helper, [], []⟩
theorem sc__law_helper : FnScope N__law_helper [("_law_many" : Str), ("_law_one" : Str), ("_law_other" : Str)] d__law_helper.scope := ⟨rfl, rfl, rfl, by decide +kernel, rfl, by decide +kernel, by decide +kernel⟩
abbrev s__law_dealt : Stmt := top 38
abbrev N__law_dealt : List Str := [("_law_many" : Str), ("_law_lots_here" : Str), ("_law_rows" : Str), ("_law_k" : Str), ("_law_j" : Str), ("_law_house" : Str), ("_law_row" : Str)]
def d__law_dealt : He.DefD := ⟨("_law_dealt", none), "_law_dealt", "_law_dealt", defArgs s__law_dealt, defBody s__law_dealt, defScope s__law_dealt, [], []⟩
theorem sc__law_dealt : FnScope N__law_dealt [("_law_many" : Str), ("_law_lots_here" : Str)] d__law_dealt.scope := ⟨rfl, rfl, rfl, by decide +kernel, rfl, by decide +kernel, by decide +kernel⟩
abbrev s__law_sums : Stmt := top 40
abbrev N__law_sums : List Str := [("_law_dealt_here" : Str), ("_law_one" : Str), ("_law_other" : Str), ("_law_sums_here" : Str), ("_law_pairs" : Str), ("_law_total" : Str), ("_law_pair" : Str)]
def d__law_sums : He.DefD := ⟨("_law_sums", none), "_law_sums", "_law_sums", defArgs s__law_sums, defBody s__law_sums, defScope s__law_sums, [], []⟩
theorem sc__law_sums : FnScope N__law_sums [("_law_dealt_here" : Str), ("_law_one" : Str), ("_law_other" : Str)] d__law_sums.scope := ⟨rfl, rfl, rfl, by decide +kernel, rfl, by decide +kernel, by decide +kernel⟩
abbrev s__law_products : Stmt := top 45
abbrev N__law_products : List Str := [("_law_state" : Str), ("_law_many" : Str), ("_law_lots_here" : Str), ("_law_one" : Str), ("_law_other" : Str), ("_law_k" : Str), ("_law_dealt_here" : Str), ("_law_told" : Str), ("_law_j" : Str)]
def d__law_products : He.DefD := ⟨("_law_products", none), "_law_products", "_law_products", defArgs s__law_products, defBody s__law_products, defScope s__law_products, [], []⟩
theorem sc__law_products : FnScope N__law_products [("_law_state" : Str), ("_law_many" : Str), ("_law_lots_here" : Str)] d__law_products.scope := ⟨rfl, rfl, rfl, by decide +kernel, rfl, by decide +kernel, by decide +kernel⟩
abbrev s__law_within : Stmt := top 36
abbrev N__law_within : List Str := [("_law_lot" : Str), ("_law_wide" : Str), ("_law_house" : Str)]
def d__law_within : He.DefD := ⟨("_law_within", none), "_law_within", "_law_within", defArgs s__law_within, defBody s__law_within, defScope s__law_within, [], []⟩
theorem sc__law_within : FnScope N__law_within [("_law_lot" : Str), ("_law_wide" : Str)] d__law_within.scope := ⟨rfl, rfl, rfl, by decide +kernel, rfl, by decide +kernel, by decide +kernel⟩
abbrev s__law_gets : Stmt := top 39
abbrev N__law_gets : List Str := [("_law_lots_here" : Str), ("_law_house" : Str), ("_law_pieces_here" : Str), ("_law_k" : Str)]
def d__law_gets : He.DefD := ⟨("_law_gets", none), "_law_gets", "_law_gets", defArgs s__law_gets, defBody s__law_gets, defScope s__law_gets, [], []⟩
theorem sc__law_gets : FnScope N__law_gets [("_law_lots_here" : Str), ("_law_house" : Str), ("_law_pieces_here" : Str)] d__law_gets.scope := ⟨rfl, rfl, rfl, by decide +kernel, rfl, by decide +kernel, by decide +kernel⟩
abbrev s__law_seen : Stmt := top 46
abbrev N__law_seen : List Str := [("_law_state" : Str), ("_law_many" : Str), ("_law_lots_here" : Str), ("_law_rows" : Str), ("_law_k" : Str), ("_law_lot" : Str), ("_law_tally" : Str), ("_law_row" : Str), ("_law_blind" : Str), ("_law_view" : Str), ("_law_house" : Str), ("_law_counts" : Str), ("_law_bit" : Str), ("_law_gets_here" : Str)]
def d__law_seen : He.DefD := ⟨("_law_seen", none), "_law_seen", "_law_seen", defArgs s__law_seen, defBody s__law_seen, defScope s__law_seen, [], []⟩
theorem sc__law_seen : FnScope N__law_seen [("_law_state" : Str), ("_law_many" : Str), ("_law_lots_here" : Str)] d__law_seen.scope := ⟨rfl, rfl, rfl, by decide +kernel, rfl, by decide +kernel, by decide +kernel⟩
abbrev s_law : Stmt := top 51
abbrev N_law : List Str := [("_law_script" : Str), ("_law_state" : Str), ("_law_many" : Str), ("_law_lots_here" : Str)]
def d_law : He.DefD := ⟨("law", none), "law", "law", defArgs s_law, defBody s_law, defScope s_law, [], []⟩
theorem sc_law : FnScope N_law [("_law_script" : Str)] d_law.scope := ⟨rfl, rfl, rfl, by decide +kernel, rfl, by decide +kernel, by decide +kernel⟩
abbrev s_NotUsable : Stmt := clsBody (top 3) 0
def d_NotUsable : He.DefD := ⟨("NotUsable", some "__init__"), "__init__", "NotUsable.__init__", defArgs s_NotUsable, defBody s_NotUsable, defScope s_NotUsable, [], []⟩
theorem sc_NotUsable : FnScope [("self" : Str), "word", "at"] [("self" : Str), "word", "at"] d_NotUsable.scope := ⟨rfl, rfl, rfl, by decide +kernel, rfl, by decide +kernel, by decide +kernel⟩
def faL : List He.Fa := [.glo "_law_start", .glo "_law_draw", .glo "_law_lots", .glo "_law_odd_lots", .glo "_law_odd_bits", .glo "_law_same", .glo "a_want", .glo "integer_fits", .glo "is_integer", .glo "want_many", .glo "number_fits", .glo "house_fits", .glo "lot_fits", .glo "is_lots", .glo "want_lots", .glo "least_outside", .glo "dealt_to", .glo "dealt_pairs", .glo "is_bit", .glo "is_bits", .glo "product_sums", .glo "_law_refused", .glo "is_number", .glo "gets_of", .glo "many_fits", .glo "is_lot", .glo "helper_of", .glo "_law_later_refusals", .glo "pieces_of", .glo "bit_of", .glo "_law_refusals", .glo "_law_by_hand", .glo "_law_bits", .glo "_law_pieces", .glo "_law_helper", .glo "_law_dealt", .glo "_law_sums", .glo "_law_products", .glo "_law_within", .glo "_law_gets", .glo "_law_seen", .glo "law", .glo "NotUsable", .free "all", .free "bool", .free "int", .free "isinstance", .free "len", .free "list", .free "range", .free "sum", .free "tuple", .exm "NotUsable" "NotUsable" true, .exm "NotUsable" "NotUsable" true]
def fnL : List He.DefD := [d__law_start, d__law_draw, d__law_lots, d__law_odd_lots, d__law_odd_bits, d__law_same, d_a_want, d_integer_fits, d_is_integer, d_want_many, d_number_fits, d_house_fits, d_lot_fits, d_is_lots, d_want_lots, d_least_outside, d_dealt_to, d_dealt_pairs, d_is_bit, d_is_bits, d_product_sums, d__law_refused, d_is_number, d_gets_of, d_many_fits, d_is_lot, d_helper_of, d__law_later_refusals, d_pieces_of, d_bit_of, d__law_refusals, d__law_by_hand, d__law_bits, d__law_pieces, d__law_helper, d__law_dealt, d__law_sums, d__law_products, d__law_within, d__law_gets, d__law_seen, d_law, d_NotUsable]
def ysT : List YesNo := [fun K => decide (tbA K).Nodup, fun K => (tbA K).all fun b => (K.lookup b).isNone, fun K => (PySem.W.tabIn K "_law_products").isSome, fun K => (PySem.W.tabIn K "_law_refusals").isSome, fun K => (PySem.W.tabIn K "_law_later_refusals").isSome]
def ysL : List YesNo := errY "NotUsable" ("NotUsable", some "__init__") "word" "at" ++ ysT
abbrev TX (K : PySem.W.Frag) (mg : Str → Option Value) : Prop := Tx faL fnL ysL K mg
theorem mem_at {A : Type} {l : List A} {a : A} (i : Nat) (h : l[i]? = some a) : a ∈ l := List.mem_of_getElem? h
section
variable {P : Program} {w : World} {K : PySem.W.Frag} {mg : Str → Option Value} {base : Heap} [LB : LamB K mg base]
theorem tabs_nd (T : TX K mg) : (tbA K).Nodup := of_decide_eq_true (T.says.own (y := fun K => decide (tbA K).Nodup) (by unfold ysL; exact List.mem_append_right _ (mem_at 0 rfl)))
theorem tabs_out (T : TX K mg) : ∀ b ∈ tbA K, K.lookup b = none := fun b hb => Option.isNone_iff_eq_none.mp (List.all_eq_true.mp (T.says.own (y := fun K => (tbA K).all fun b => (K.lookup b).isNone) (by unfold ysL; exact List.mem_append_right _ (mem_at 1 rfl))) b hb)
theorem tab__law_products (T : TX K mg) : ∃ cp : Addr × Addr, PySem.W.tabIn K "_law_products" = some (cp.1, cp.2) := (Option.isSome_iff_exists.mp (T.says.own (y := fun K => (PySem.W.tabIn K "_law_products").isSome) (by unfold ysL; exact List.mem_append_right _ (mem_at 2 rfl)))).imp fun _ h => h
theorem tab__law_refusals (T : TX K mg) : ∃ cp : Addr × Addr, PySem.W.tabIn K "_law_refusals" = some (cp.1, cp.2) := (Option.isSome_iff_exists.mp (T.says.own (y := fun K => (PySem.W.tabIn K "_law_refusals").isSome) (by unfold ysL; exact List.mem_append_right _ (mem_at 3 rfl)))).imp fun _ h => h
theorem tab__law_later_refusals (T : TX K mg) : ∃ cp : Addr × Addr, PySem.W.tabIn K "_law_later_refusals" = some (cp.1, cp.2) := (Option.isSome_iff_exists.mp (T.says.own (y := fun K => (PySem.W.tabIn K "_law_later_refusals").isSome) (by unfold ysL; exact List.mem_append_right _ (mem_at 4 rfl)))).imp fun _ h => h
theorem hy_NotUsable : ∀ y ∈ errY "NotUsable" d_NotUsable.at_ "word" "at", y ∈ ysL := fun y h => by
  unfold ysL
  exact (List.mem_append_left _ h)
theorem err_NotUsable (T : TX K mg) : ErrC P w K mg base "NotUsable" "word" "at" d_NotUsable :=
  errC_of T (mem_at 42 rfl) rfl rfl (mem_at 42 rfl) hy_NotUsable sc_NotUsable (fun _ _ _ _ _ _ us hl => match us, hl with | [_, _, _], _ => rfl) fun X hN hs => by
    have h0 : X.N[0]? = some ("self" : Str) := by rw [hN]; rfl
    have h1 : X.N[1]? = some ("word" : Str) := by rw [hN]; rfl
    have h2 : X.N[2]? = some ("at" : Str) := by rw [hN]; rfl
    have v0 : Vis X.env.scope ("self" : Str) := by rw [hs]; exact Or.inl rfl
    have v1 : Vis X.env.scope ("word" : Str) := by rw [hs]; exact Or.inl rfl
    have v2 : Vis X.env.scope ("at" : Str) := by rw [hs]; exact Or.inl rfl
    exact pss_cons (ps_ost (pe_var h0 v0) (pe_var h1 v1)) (pss_one (ps_ost (pe_var h0 v0) (pe_var h2 v2)))
theorem xf_NotUsable (T : TX K mg) : XfC K (He.ga K "NotUsable") := xfB_ok (T.says.own (y := fun K => xfB K (He.ga K "NotUsable")) (hy_NotUsable _ (by simp [errY, errY1, d_NotUsable])))
theorem no_NotUsable_word (T : TX K mg) : PySem.W.findIn K (.ref (He.ga K "NotUsable")) "word" = some none := of_decide_eq_true (T.says.own (y := fun K => decide (PySem.W.findIn K (.ref (He.ga K "NotUsable")) "word" = some none)) (hy_NotUsable _ (by simp [errY, errY1, d_NotUsable])))
theorem no_NotUsable_at (T : TX K mg) : PySem.W.findIn K (.ref (He.ga K "NotUsable")) "at" = some none := of_decide_eq_true (T.says.own (y := fun K => decide (PySem.W.findIn K (.ref (He.ga K "NotUsable")) "at" = some none)) (hy_NotUsable _ (by simp [errY, errY1, d_NotUsable])))
theorem hcm_NotUsable (T : TX K mg) : ∀ (x : Str) (bb : Bool) (C : Addr), (x, bb) ∈ [(("NotUsable" : Str), true)] → mg x = some (.ref C) → PySem.W.exmOne K (.ref C) (.ref (He.ga K "NotUsable")) = some bb := fun x bb C hm hC => by
  simp only [List.mem_cons, List.not_mem_nil, or_false, Prod.mk.injEq] at hm
  rcases hm with ⟨rfl, rfl⟩
  · have e := (T.glo "NotUsable" (mem_at 42 rfl)).symm.trans hC
    injection e with e
    injection e with e
    subst e
    exact He.exm_ok (T.says.fact (f := .exm "NotUsable" "NotUsable" true) (mem_at 53 rfl))
theorem onlym_NotUsable (T : TX K mg) {C : Addr} (h : ∃ x : Str, (x, true) ∈ [(("NotUsable" : Str), true)] ∧ mg x = some (.ref C)) : C = He.ga K "NotUsable" := by
  obtain ⟨x, hm, hC⟩ := h
  have hx : x = "NotUsable" := by simpa using hm
  subst hx
  have e := (T.glo "NotUsable" (mem_at 42 rfl)).symm.trans hC
  injection e with e
  injection e with e
  exact e.symm
theorem cal__law_start (T : TX K mg) : CalG P w K mg base 1 d__law_start [("_law_script" : Str)] (spO K mg M__law_start) := by
  have f_len : mg "len" = none := T.free "len" (mem_at 47 rfl)
  have f_list : mg "list" = none := T.free "list" (mem_at 48 rfl)
  obtain ⟨fd, F0⟩ := T.says.def_ (d := d__law_start) (mem_at 0 rfl)
  have F : FunD K d__law_start.name d__law_start.qual d__law_start.params d__law_start.body d__law_start.scope [] [] (He.fAd K d__law_start.at_) fd := F0
  have B : Binds K fd [("_law_script" : Str)] [] := F.bindsN fun _ _ _ _ _ _ us hl => match us, hl with | [_], _ => rfl
  have glo : mg d__law_start.name = some (.ref (He.fAd K d__law_start.at_)) := T.glo "_law_start" (mem_at 0 rfl)
  refine ⟨⟨fd, F, ?_, B⟩, glo⟩
  refine fnO_ok F sc__law_start (by decide) ?_
  intro cdv A outer s H E hgd hr
  exact ⟨_, (pss_one (ps_ret (pe_lst (pa_cons (pe_callTy call_list_of (by rfl) (by exact f_list) (by decide +kernel) (pa_cons (pv 0) pa_nil)) (pa_cons pe_int (pa_cons pe_int (pa_cons (pe_op op_add3 pe_int (pe_op op_mulX pe_int (pe_callB call_len_seq (by rfl) (by exact f_len) (by decide +kernel) (pa_cons (pv 0) pa_nil)))) pa_nil))))))),
  (so_retL (sl_lst (sa_cons (se_l (sl_n o_list (sa_cons se_var sa_nil))) (sa_cons se_int (sa_cons se_int (sa_cons (se_2 o_add se_int (se_2 o_mul se_int (se_n o_len (sa_cons se_var sa_nil)))) sa_nil))))))⟩
theorem cal__law_draw (T : TX K mg) : CalG P w K mg base 1 d__law_draw [("_law_state" : Str), ("_law_many" : Str)] (spD K mg M__law_draw) := by
  have f_int : mg "int" = none := T.free "int" (mem_at 45 rfl)
  have f_len : mg "len" = none := T.free "len" (mem_at 47 rfl)
  obtain ⟨fd, F0⟩ := T.says.def_ (d := d__law_draw) (mem_at 1 rfl)
  have F : FunD K d__law_draw.name d__law_draw.qual d__law_draw.params d__law_draw.body d__law_draw.scope [] [] (He.fAd K d__law_draw.at_) fd := F0
  have B : Binds K fd [("_law_state" : Str), ("_law_many" : Str)] [] := F.bindsN fun _ _ _ _ _ _ us hl => match us, hl with | [_, _], _ => rfl
  have glo : mg d__law_draw.name = some (.ref (He.fAd K d__law_draw.at_)) := T.glo "_law_draw" (mem_at 1 rfl)
  refine ⟨⟨fd, F, ?_, B⟩, glo⟩
  refine fnD_ok F sc__law_draw (by decide) ?_
  intro cdv A outer s H E hgd hr
  exact ⟨_, (pss_cons (ps_if (PW.pt (pw_or (pt_cmpR (op_ltG (room65 hr)) (pv 1) pe_int (nomark _)) (pw_or1 (pt_cmpR (op_eqG (room65 hr)) (pe_callB call_len_seq (by rfl) (by exact f_len) (by decide +kernel) (pa_cons (pe_ix ix_seq (pv 0) pe_int fun _ _ => rfl) pa_nil)) pe_int (nomark _))))) (pss_one (ps_ret pe_int)) pss_nil)
  (pss_cons (ps_if (pt_cmpR (op_eqG (room65 hr)) (pe_ix ix_seq (pv 0) pe_int fun _ _ => rfl) pe_int (nomark _)) (pss_cons (ps_set (i := 3) sc__law_draw.nd rfl (Or.inl rfl) pe_int)
  (pss_cons (ps_if (pt_cmpR (op_ltG (room65 hr)) (pe_ix ix_seq (pv 0) pe_int fun _ _ => rfl) (pe_callB call_len_seq (by rfl) (by exact f_len) (by decide +kernel) (pa_cons (pe_ix ix_seq (pv 0) pe_int fun _ _ => rfl) pa_nil)) (nomark _)) (pss_cons (ps_set (i := 3) sc__law_draw.nd rfl (Or.inl rfl) (pe_ix ix_seq (pe_ix ix_seq (pv 0) pe_int fun _ _ => rfl) (pe_ix ix_seq (pv 0) pe_int fun _ _ => rfl) fun _ _ => rfl))
  (pss_one (ps_asg (pe_op op_add3 (pe_ix ix_seq (pv 0) pe_int fun _ _ => rfl) pe_int) (pg_sub (pv 0) pe_int set_list)))) pss_nil)
  (pss_cons (ps_if (pt_cmpR (op_ltG (room65 hr)) (pv 3) pe_int (nomark _)) (pss_one (ps_set (i := 3) sc__law_draw.nd rfl (Or.inl rfl) (pe_op op_sub pe_int (pe_op op_mulX pe_int (pv 3))))) pss_nil)
  (pss_cons (ps_if (pt_cmpR (op_ltG (room65 hr)) (pv 3) pe_int (nomark _)) (pss_cons (ps_asg (pe_op op_mod (pe_callTy call_int1 (by rfl) (by exact f_int) (by decide +kernel) (pa_cons (pe_op op_add3 (pe_op op_add3 (pe_op op_mulX (pe_ix ix_seq (pv 0) pe_int fun _ _ => rfl) pe_int) (pe_op op_mulX (pv 3) pe_int)) pe_int) pa_nil)) pe_int) (pg_sub (pv 0) pe_int set_list))
  (pss_one (ps_ret (pe_op op_mod (pe_callTy call_int1 (by rfl) (by exact f_int) (by decide +kernel) (pa_cons (pe_op op_fdivW (pe_ix ix_seq (pv 0) pe_int fun _ _ => rfl) pe_int) pa_nil)) (pv 1))))) pss_nil)
  (pss_one (ps_asg (pv 3) (pg_sub (pv 0) pe_int set_list))))))) pss_nil)
  (pss_cons (ps_set (i := 2) sc__law_draw.nd rfl (Or.inl rfl) (pe_op op_mod (pe_callTy call_int1 (by rfl) (by exact f_int) (by decide +kernel) (pa_cons (pe_ix ix_seq (pv 0) pe_int fun _ _ => rfl) pa_nil)) (pv 1)))
  (pss_cons (ps_asg (pe_op op_fdivW (pe_ix ix_seq (pv 0) pe_int fun _ _ => rfl) (pv 1)) (pg_sub (pv 0) pe_int set_list))
  (pss_one (ps_ret (pv 2))))))),
  (ss_seq (ss_if (st_or (st_test (se_2 o_lt se_var se_int)) (st_test (se_2 o_eq (se_n o_len (sa_cons (se_dIx se_int) sa_nil)) se_int))) (ss_ret se_int) ss_next)
  (ss_seq (ss_if (st_test (se_2 o_eq (se_dIx se_int) se_int)) (ss_seq (ss_asg se_int sg_name)
  (ss_seq (ss_if (st_test (se_2 o_lt (se_dIx se_int) (se_n o_len (sa_cons (se_dIx se_int) sa_nil)))) (ss_seq (ss_asg (se_2 o_ix (se_dIx se_int) (se_dIx se_int)) sg_name)
  (ss_setD (se_2 o_add (se_dIx se_int) se_int) se_int)) ss_next)
  (ss_seq (ss_if (st_test (se_2 o_lt se_var se_int)) (ss_asg (se_2 o_sub se_int (se_2 o_mul se_int se_var)) sg_name) ss_next)
  (ss_seq (ss_if (st_test (se_2 o_lt se_var se_int)) (ss_seq (ss_setD (se_2 o_mod (se_n o_int (sa_cons (se_2 o_add (se_2 o_add (se_2 o_mul (se_dIx se_int) se_int) (se_2 o_mul se_var se_int)) se_int) sa_nil)) se_int) se_int)
  (ss_ret (se_2 o_mod (se_n o_int (sa_cons (se_2 o_div (se_dIx se_int) se_int) sa_nil)) se_var))) ss_next)
  (ss_setD se_var se_int))))) ss_next)
  (ss_seq (ss_asg (se_2 o_mod (se_n o_int (sa_cons (se_dIx se_int) sa_nil)) se_var) sg_name)
  (ss_seq (ss_setD (se_2 o_div (se_dIx se_int) se_var) se_int)
  (ss_ret se_var)))))⟩
theorem cal__law_lots (T : TX K mg) : CalG P w K mg base 2 d__law_lots [("_law_state" : Str), ("_law_many" : Str)] (spD K mg M__law_lots) := by
  have c__law_draw : CalG P w K mg base 1 d__law_draw [("_law_state" : Str), ("_law_many" : Str)] (spD K mg M__law_draw) := cal__law_draw T
  have f_len : mg "len" = none := T.free "len" (mem_at 47 rfl)
  have f_range : mg "range" = none := T.free "range" (mem_at 49 rfl)
  have f_tuple : mg "tuple" = none := T.free "tuple" (mem_at 51 rfl)
  obtain ⟨fd, F0⟩ := T.says.def_ (d := d__law_lots) (mem_at 2 rfl)
  have F : FunD K d__law_lots.name d__law_lots.qual d__law_lots.params d__law_lots.body d__law_lots.scope [] [] (He.fAd K d__law_lots.at_) fd := F0
  have B : Binds K fd [("_law_state" : Str), ("_law_many" : Str)] [] := F.bindsN fun _ _ _ _ _ _ us hl => match us, hl with | [_, _], _ => rfl
  have glo : mg d__law_lots.name = some (.ref (He.fAd K d__law_lots.at_)) := T.glo "_law_lots" (mem_at 2 rfl)
  refine ⟨⟨fd, F, ?_, B⟩, glo⟩
  refine fnD_ok F sc__law_lots (by decide) ?_
  intro cdv A outer s H E hgd hr
  exact ⟨_, (pss_cons (ps_set (i := 2) sc__law_lots.nd rfl (Or.inl rfl) (pe_cal c__law_draw hgd hr (by decide) (passEN (L2N.takes_of rfl rfl rfl rfl)) (pa_cons (pv 0) (pa_cons pe_int pa_nil))))
  (pss_cons (ps_set (i := 3) sc__law_lots.nd rfl (Or.inl rfl) (pe_cal c__law_draw hgd hr (by decide) (passEN (L2N.takes_of rfl rfl rfl rfl)) (pa_cons (pv 0) (pa_cons (pv 1) pa_nil))))
  (pss_cons (ps_set (i := 4) sc__law_lots.nd rfl (Or.inl rfl) (pe_lst pa_nil))
  (pss_cons (ps_for (passes_of rfl) rfl (pi_range1 (by rfl) (by exact f_range) (pa_cons (pe_op op_add3 pe_int (pe_cal c__law_draw hgd hr (by decide) (passEN (L2N.takes_of rfl rfl rfl rfl)) (pa_cons (pv 0) (pa_cons pe_int pa_nil)))) pa_nil)) (pg_name (i := 5) sc__law_lots.nd rfl (Or.inl rfl)) (pss_cons (ps_set (i := 6) sc__law_lots.nd rfl (Or.inl rfl) (pe_lst pa_nil))
  (pss_cons (ps_for (passes_of rfl) rfl (pi_range1 (by rfl) (by exact f_range) (pa_cons (pv 1) pa_nil)) (pg_name (i := 7) sc__law_lots.nd rfl (Or.inl rfl)) (pss_cons (ps_set (i := 8) sc__law_lots.nd rfl (Or.inl rfl) (pe_or (pe_cmpR (op_neG (room65 hr)) (pv 2) pe_int (nomark _)) (pe_one (pe_cmpR (op_ltG (room65 hr)) (pe_op op_mulX pe_int (pe_op op_add3 (pe_callB call_len_seq (by rfl) (by exact f_len) boot_len (pa_cons (pv 6) pa_nil)) pe_int)) (pv 1) (nomark _)))))
  (pss_one (ps_if (PW.pt (pw_and (pt_cmpR (op_eqG (room65 hr)) (pe_cal c__law_draw hgd hr (by decide) (passEN (L2N.takes_of rfl rfl rfl rfl)) (pa_cons (pv 0) (pa_cons pe_int pa_nil))) pe_int (nomark _)) (pw_and (pt_truth (pv 8) fun _ => rfl) (pw_and1 (PW.pt (pw_or (pt_cmpR (op_neG (room65 hr)) (pv 2) pe_int (nomark _)) (pw_or1 (pt_cmpR (op_neG (room65 hr)) (pv 7) (pv 3) (nomark _))))))))) (pss_one (ps_expr (pe_bm PySem.F.plainAttrs_list PySem.F.slot_list_append PySem.F.type_list_append mt_append (pv 6) (pa_cons (pv 7) pa_nil)))) pss_nil))))
  (pss_one (ps_expr (pe_bm PySem.F.plainAttrs_list PySem.F.slot_list_append PySem.F.type_list_append mt_append (pv 4) (pa_cons (pe_callTy call_tuple_of (by rfl) (by exact f_tuple) (by decide +kernel) (pa_cons (pv 6) pa_nil)) pa_nil)))))))
  (pss_cons (ps_if (pt_cmpR (op_eqG (room65 hr)) (pv 2) pe_int (nomark _)) (pss_one (ps_asg (pe_ix ix_seq (pv 4) pe_int fun _ _ => rfl) (pg_sub (pv 4) (pe_un un_neg pe_int) set_list))) pss_nil)
  (pss_one (ps_ret (pe_callTy call_tuple_of (by rfl) (by exact f_tuple) (by decide +kernel) (pa_cons (pv 4) pa_nil))))))))),
  (ss_seq (ss_asg (se_callM (sa_cons se_int sa_nil)) sg_name)
  (ss_seq (ss_asg (se_callM (sa_cons se_var sa_nil)) sg_name)
  (ss_seq (ss_asgO (sl_lst sa_nil))
  (ss_seq (ss_for (si_rng1 (sa_cons (se_2 o_add se_int (se_callM (sa_cons se_int sa_nil))) sa_nil)) sg_name (ss_seq (ss_asgO (sl_lst sa_nil))
  (ss_seq (ss_for (si_rng1 (sa_cons se_var sa_nil)) sg_name (ss_seq (ss_asg (se_or (se_2 o_ne se_var se_int) (se_2 o_lt (se_2 o_mul se_int (se_2 o_add se_bLen se_int)) se_var)) sg_name)
  (ss_if (st_and (st_test (se_2 o_eq (se_callM (sa_cons se_int sa_nil)) se_int)) (st_and (st_tru se_var) (st_or (st_test (se_2 o_ne se_var se_int)) (st_test (se_2 o_ne se_var se_var))))) (ss_app se_var) ss_next)))
  (ss_app (se_n o_tuple (sa_cons se_var sa_nil))))))
  (ss_seq (ss_if (st_test (se_2 o_eq se_var se_int)) (ss_setO (se_bIx se_int) (se_1 o_neg se_int)) ss_next)
  (ss_ret (se_n o_tuple (sa_cons se_var sa_nil))))))))⟩
theorem cal__law_odd_lots (T : TX K mg) : CalG P w K mg base 1 d__law_odd_lots [("_law_many" : Str)] (spP K mg M__law_odd_lots) := by
  obtain ⟨fd, F0⟩ := T.says.def_ (d := d__law_odd_lots) (mem_at 3 rfl)
  have F : FunD K d__law_odd_lots.name d__law_odd_lots.qual d__law_odd_lots.params d__law_odd_lots.body d__law_odd_lots.scope [] [] (He.fAd K d__law_odd_lots.at_) fd := F0
  have B : Binds K fd [("_law_many" : Str)] [] := F.bindsN fun _ _ _ _ _ _ us hl => match us, hl with | [_], _ => rfl
  have glo : mg d__law_odd_lots.name = some (.ref (He.fAd K d__law_odd_lots.at_)) := T.glo "_law_odd_lots" (mem_at 3 rfl)
  refine ⟨⟨fd, F, ?_, B⟩, glo⟩
  refine fnP_ok F sc__law_odd_lots (by decide) ?_
  intro cdv A outer s H E hgd hr
  exact ⟨_, (pss_one (ps_ret (pe_tup (pa_cons pe_non (pa_cons (pe_tup pa_nil) (pa_cons pe_int (pa_cons pe_str (pa_cons (pe_lst (pa_cons (pe_tup pa_nil) pa_nil)) (pa_cons (pe_tup (pa_cons (pe_tup (pa_cons pe_int pa_nil)) (pa_cons (pe_lst (pa_cons pe_int pa_nil)) pa_nil))) (pa_cons (pe_tup (pa_cons pe_int pa_nil)) (pa_cons (pe_tup (pa_cons (pe_tup (pa_cons pe_int (pa_cons pe_int pa_nil))) pa_nil)) (pa_cons (pe_tup (pa_cons (pe_tup (pa_cons (pv 0) pa_nil)) pa_nil)) (pa_cons (pe_tup (pa_cons (pe_tup (pa_cons (pe_un un_neg pe_int) pa_nil)) pa_nil)) (pa_cons (pe_tup (pa_cons (pe_tup (pa_cons pe_bl pa_nil)) pa_nil)) (pa_cons (pe_tup (pa_cons (pe_tup (pa_cons pe_int (pa_cons pe_int pa_nil))) pa_nil)) (pa_cons (pe_tup (pa_cons (pe_tup pa_nil) (pa_cons pe_non pa_nil))) (pa_cons (pe_tup (pa_cons (pe_tup (pa_cons pe_int pa_nil)) (pa_cons pe_str pa_nil))) (pa_cons (pe_tup (pa_cons (pe_tup (pa_cons (pe_tup (pa_cons pe_int pa_nil)) pa_nil)) pa_nil)) pa_nil)))))))))))))))))),
  (ss_ret (se_tup (sa_cons se_non (sa_cons (se_tup sa_nil) (sa_cons se_int (sa_cons se_str (sa_cons (se_l (sl_lst (sa_cons (se_tup sa_nil) sa_nil))) (sa_cons (se_tup (sa_cons (se_tup (sa_cons se_int sa_nil)) (sa_cons (se_l (sl_lst (sa_cons se_int sa_nil))) sa_nil))) (sa_cons (se_tup (sa_cons se_int sa_nil)) (sa_cons (se_tup (sa_cons (se_tup (sa_cons se_int (sa_cons se_int sa_nil))) sa_nil)) (sa_cons (se_tup (sa_cons (se_tup (sa_cons se_var sa_nil)) sa_nil)) (sa_cons (se_tup (sa_cons (se_tup (sa_cons (se_1 o_neg se_int) sa_nil)) sa_nil)) (sa_cons (se_tup (sa_cons (se_tup (sa_cons se_bl sa_nil)) sa_nil)) (sa_cons (se_tup (sa_cons (se_tup (sa_cons se_int (sa_cons se_int sa_nil))) sa_nil)) (sa_cons (se_tup (sa_cons (se_tup sa_nil) (sa_cons se_non sa_nil))) (sa_cons (se_tup (sa_cons (se_tup (sa_cons se_int sa_nil)) (sa_cons se_str sa_nil))) (sa_cons (se_tup (sa_cons (se_tup (sa_cons (se_tup (sa_cons se_int sa_nil)) sa_nil)) sa_nil)) sa_nil)))))))))))))))))⟩
theorem cal__law_odd_bits (T : TX K mg) : CalG P w K mg base 1 d__law_odd_bits [("_law_many" : Str)] (spP K mg M__law_odd_bits) := by
  obtain ⟨fd, F0⟩ := T.says.def_ (d := d__law_odd_bits) (mem_at 4 rfl)
  have F : FunD K d__law_odd_bits.name d__law_odd_bits.qual d__law_odd_bits.params d__law_odd_bits.body d__law_odd_bits.scope [] [] (He.fAd K d__law_odd_bits.at_) fd := F0
  have B : Binds K fd [("_law_many" : Str)] [] := F.bindsN fun _ _ _ _ _ _ us hl => match us, hl with | [_], _ => rfl
  have glo : mg d__law_odd_bits.name = some (.ref (He.fAd K d__law_odd_bits.at_)) := T.glo "_law_odd_bits" (mem_at 4 rfl)
  refine ⟨⟨fd, F, ?_, B⟩, glo⟩
  refine fnP_ok F sc__law_odd_bits (by decide) ?_
  intro cdv A outer s H E hgd hr
  exact ⟨_, (pss_one (ps_ret (pe_tup (pa_cons pe_non (pa_cons pe_str (pa_cons (pe_op op_rep (pe_lst (pa_cons pe_int pa_nil)) (pv 0)) (pa_cons (pe_op op_mulT (pe_tup (pa_cons pe_bl pa_nil)) (pv 0)) (pa_cons (pe_op op_add3 (pe_op op_mulT (pe_tup (pa_cons pe_int pa_nil)) (pe_op op_sub (pv 0) pe_int)) (pe_tup (pa_cons pe_int pa_nil))) (pa_cons (pe_op op_add3 (pe_op op_mulT (pe_tup (pa_cons pe_int pa_nil)) (pe_op op_sub (pv 0) pe_int)) (pe_tup (pa_cons pe_non pa_nil))) (pa_cons (pe_op op_mulT (pe_tup (pa_cons pe_int pa_nil)) (pe_op op_add3 (pv 0) pe_int)) (pa_cons (pe_op op_mulT (pe_tup (pa_cons pe_int pa_nil)) (pe_op op_sub (pv 0) pe_int)) (pa_cons (pe_op op_add3 (pe_tup (pa_cons (pe_un un_neg pe_int) pa_nil)) (pe_op op_mulT (pe_tup (pa_cons pe_int pa_nil)) (pe_op op_sub (pv 0) pe_int))) (pa_cons pe_int pa_nil))))))))))))),
  (ss_ret (se_tup (sa_cons se_non (sa_cons se_str (sa_cons (se_l (sl_rep (sl_lst (sa_cons se_int sa_nil)) se_var)) (sa_cons (se_2 o_mulT (se_tup (sa_cons se_bl sa_nil)) se_var) (sa_cons (se_2 o_add (se_2 o_mulT (se_tup (sa_cons se_int sa_nil)) (se_2 o_sub se_var se_int)) (se_tup (sa_cons se_int sa_nil))) (sa_cons (se_2 o_add (se_2 o_mulT (se_tup (sa_cons se_int sa_nil)) (se_2 o_sub se_var se_int)) (se_tup (sa_cons se_non sa_nil))) (sa_cons (se_2 o_mulT (se_tup (sa_cons se_int sa_nil)) (se_2 o_add se_var se_int)) (sa_cons (se_2 o_mulT (se_tup (sa_cons se_int sa_nil)) (se_2 o_sub se_var se_int)) (sa_cons (se_2 o_add (se_tup (sa_cons (se_1 o_neg se_int) sa_nil)) (se_2 o_mulT (se_tup (sa_cons se_int sa_nil)) (se_2 o_sub se_var se_int))) (sa_cons se_int sa_nil))))))))))))⟩
theorem calr__law_same (T : TX K mg) : ∀ j, CalG P w K mg base (0 + 1 * j) d__law_same [("_law_told" : Str), ("_law_due" : Str)] (spP K mg (MR__law_same j))
  | 0 => by
    obtain ⟨fd, F0⟩ := T.says.def_ (d := d__law_same) (mem_at 5 rfl)
    have F : FunD K d__law_same.name d__law_same.qual d__law_same.params d__law_same.body d__law_same.scope [] [] (He.fAd K d__law_same.at_) fd := F0
    exact ⟨⟨fd, F, fnG_never, F.bindsN fun _ _ _ _ _ _ us hl => match us, hl with | [_, _], _ => rfl⟩, T.glo "_law_same" (mem_at 5 rfl)⟩
  | j + 1 => by
    have c__law_same : CalG P w K mg base (0 + 1 * j) d__law_same [("_law_told" : Str), ("_law_due" : Str)] (spP K mg (MR__law_same j)) := calr__law_same T j
    show CalG P w K mg base (0 + 1 * j + 0 + 1) d__law_same [("_law_told" : Str), ("_law_due" : Str)] (spP K mg (fnM 3 2 (m__law_same (MR__law_same j))))
    have f_bool : mg "bool" = none := T.free "bool" (mem_at 44 rfl)
    have f_int : mg "int" = none := T.free "int" (mem_at 45 rfl)
    have f_isinstance : mg "isinstance" = none := T.free "isinstance" (mem_at 46 rfl)
    have f_len : mg "len" = none := T.free "len" (mem_at 47 rfl)
    have f_range : mg "range" = none := T.free "range" (mem_at 49 rfl)
    have f_tuple : mg "tuple" = none := T.free "tuple" (mem_at 51 rfl)
    obtain ⟨fd, F0⟩ := T.says.def_ (d := d__law_same) (mem_at 5 rfl)
    have F : FunD K d__law_same.name d__law_same.qual d__law_same.params d__law_same.body d__law_same.scope [] [] (He.fAd K d__law_same.at_) fd := F0
    have B : Binds K fd [("_law_told" : Str), ("_law_due" : Str)] [] := F.bindsN fun _ _ _ _ _ _ us hl => match us, hl with | [_, _], _ => rfl
    have glo : mg d__law_same.name = some (.ref (He.fAd K d__law_same.at_)) := T.glo "_law_same" (mem_at 5 rfl)
    refine ⟨⟨fd, F, ?_, B⟩, glo⟩
    refine fnP_ok F sc__law_same (by decide) ?_
    intro cdv A outer s H E hgd hr
    exact ⟨_, (pss_cons (ps_if (pt_cmpR op_isG (pv 1) pe_non (nomark _)) (pss_one (ps_ret (pe_cmpR op_isG (pv 0) pe_non (nomark _)))) pss_nil)
    (pss_cons (ps_if (pt_truth (pe_callB call_isiM (by rfl) (by exact f_isinstance) boot_isinstance (pa_cons (pv 1) (pa_cons (pe_bltn (v := .ty (Ty.nm .tup)) (by rfl) (by exact f_tuple) (by decide +kernel) rfl) pa_nil))) fun _ => rfl) (pss_cons (ps_if (PW.pt (pw_or (pt_not (pt_truth (pe_callB call_isiM (by rfl) (by exact f_isinstance) boot_isinstance (pa_cons (pv 0) (pa_cons (pe_bltn (v := .ty (Ty.nm .tup)) (by rfl) (by exact f_tuple) (by decide +kernel) rfl) pa_nil))) fun _ => rfl)) (pw_or1 (pt_cmpR (op_neG (room65 hr)) (pe_callB call_len_seq (by rfl) (by exact f_len) (by decide +kernel) (pa_cons (pv 0) pa_nil)) (pe_callB call_len_seq (by rfl) (by exact f_len) (by decide +kernel) (pa_cons (pv 1) pa_nil)) (nomark _))))) (pss_one (ps_ret pe_bl)) pss_nil)
    (pss_cons (ps_for (passes_of rfl) rfl (pi_range1 (by rfl) (by exact f_range) (pa_cons (pe_callB call_len_seq (by rfl) (by exact f_len) (by decide +kernel) (pa_cons (pv 1) pa_nil)) pa_nil)) (pg_name (i := 2) sc__law_same.nd rfl (Or.inl rfl)) (pss_one (ps_if (pt_not (pt_truth (pe_cal c__law_same hgd hr (by omega) (passEN (L2N.takes_of rfl rfl rfl rfl)) (pa_cons (pe_ix ix_seq (pv 0) (pv 2) fun _ _ => rfl) (pa_cons (pe_ix ix_seq (pv 1) (pv 2) fun _ _ => rfl) pa_nil))) fun _ => rfl)) (pss_one (ps_ret pe_bl)) pss_nil)))
    (pss_one (ps_ret pe_bl)))) pss_nil)
    (pss_one (ps_ret (pe_and (pe_callB call_isiM (by rfl) (by exact f_isinstance) boot_isinstance (pa_cons (pv 0) (pa_cons (pe_bltn (v := .ty (Ty.nm .int)) (by rfl) (by exact f_int) (by decide +kernel) rfl) pa_nil))) (pe_and (pe_not (pe_callB call_isiM (by rfl) (by exact f_isinstance) boot_isinstance (pa_cons (pv 0) (pa_cons (pe_bltn (v := .ty (Ty.nm .bool)) (by rfl) (by exact f_bool) (by decide +kernel) rfl) pa_nil)))) (pe_one (pe_cmpR (op_eqG (room65 hr)) (pv 0) (pv 1) (nomark _))))))))),
    (ss_seq (ss_if (st_test (se_2 o_is se_var se_non)) (ss_ret (se_2 o_is se_var se_non)) ss_next)
    (ss_seq (ss_if (st_tru (se_isi .tup se_var)) (ss_seq (ss_if (st_or (st_not (st_tru (se_isi .tup se_var))) (st_test (se_2 o_ne (se_n o_len (sa_cons se_var sa_nil)) (se_n o_len (sa_cons se_var sa_nil))))) (ss_ret se_bl) ss_next)
    (ss_seq (ss_for (si_rng1 (sa_cons (se_n o_len (sa_cons se_var sa_nil)) sa_nil)) sg_name (ss_if (st_not (st_tru (se_callD (sa_cons (se_2 o_ix se_var se_var) (sa_cons (se_2 o_ix se_var se_var) sa_nil))))) (ss_ret se_bl) ss_next))
    (ss_ret se_bl))) ss_next)
    (ss_ret (se_and (se_isi .int se_var) (se_and (se_not (se_isi .bool se_var)) (se_2 o_eq se_var se_var))))))⟩
theorem cal__law_same (T : TX K mg) : CalG P w K mg base 6 d__law_same [("_law_told" : Str), ("_law_due" : Str)] (spP K mg M__law_same) := calr__law_same T 6
theorem cal_a_want (T : TX K mg) : CalG P w K mg base 3 d_a_want [("good" : Str), ("word" : Str)] (spP K mg M_a_want) := by
  have E_NotUsable : ErrC P w K mg base "NotUsable" "word" "at" d_NotUsable := err_NotUsable T
  obtain ⟨fd, F0⟩ := T.says.def_ (d := d_a_want) (mem_at 6 rfl)
  have F : FunD K d_a_want.name d_a_want.qual d_a_want.params d_a_want.body d_a_want.scope [] [] (He.fAd K d_a_want.at_) fd := F0
  have B : Binds K fd [("good" : Str), ("word" : Str)] [] := F.bindsN fun _ _ _ _ _ _ us hl => match us, hl with | [_, _], _ => rfl
  have glo : mg d_a_want.name = some (.ref (He.fAd K d_a_want.at_)) := T.glo "a_want" (mem_at 6 rfl)
  refine ⟨⟨fd, F, ?_, B⟩, glo⟩
  refine fnP_ok F sc_a_want (by decide) ?_
  intro cdv A outer s H E hgd hr
  exact ⟨_, (pss_one (ps_if (pt_not (pt_truth (pv 0) fun _ => rfl)) (pss_one (ps_raiseCN E_NotUsable rfl hr (by decide) (L2N.takes_of rfl rfl rfl rfl) (pa_cons (pv 1) (pa_cons (pe_un un_neg pe_int) pa_nil)))) pss_nil)),
  (ss_if (st_not (st_tru se_var)) (ss_raise E_NotUsable.glo (sa_cons se_var (sa_cons (se_1 o_neg se_int) sa_nil))) ss_next)⟩
theorem cal_integer_fits (T : TX K mg) : CalG P w K mg base 1 d_integer_fits [("thing" : Str)] (spP K mg M_integer_fits) := by
  have f_bool : mg "bool" = none := T.free "bool" (mem_at 44 rfl)
  have f_int : mg "int" = none := T.free "int" (mem_at 45 rfl)
  have f_isinstance : mg "isinstance" = none := T.free "isinstance" (mem_at 46 rfl)
  obtain ⟨fd, F0⟩ := T.says.def_ (d := d_integer_fits) (mem_at 7 rfl)
  have F : FunD K d_integer_fits.name d_integer_fits.qual d_integer_fits.params d_integer_fits.body d_integer_fits.scope [] [] (He.fAd K d_integer_fits.at_) fd := F0
  have B : Binds K fd [("thing" : Str)] [] := F.bindsN fun _ _ _ _ _ _ us hl => match us, hl with | [_], _ => rfl
  have glo : mg d_integer_fits.name = some (.ref (He.fAd K d_integer_fits.at_)) := T.glo "integer_fits" (mem_at 7 rfl)
  refine ⟨⟨fd, F, ?_, B⟩, glo⟩
  refine fnP_ok F sc_integer_fits (by decide) ?_
  intro cdv A outer s H E hgd hr
  exact ⟨_, (pss_one (ps_ret (pe_and (pe_callB call_isiM (by rfl) (by exact f_isinstance) boot_isinstance (pa_cons (pv 0) (pa_cons (pe_bltn (v := .ty (Ty.nm .int)) (by rfl) (by exact f_int) (by decide +kernel) rfl) pa_nil))) (pe_one (pe_not (pe_callB call_isiM (by rfl) (by exact f_isinstance) boot_isinstance (pa_cons (pv 0) (pa_cons (pe_bltn (v := .ty (Ty.nm .bool)) (by rfl) (by exact f_bool) (by decide +kernel) rfl) pa_nil)))))))),
  (ss_ret (se_and (se_isi .int se_var) (se_not (se_isi .bool se_var))))⟩
theorem cal_is_integer (T : TX K mg) : CalG P w K mg base 2 d_is_integer [("thing" : Str)] (spP K mg M_is_integer) := by
  have c_integer_fits : CalG P w K mg base 1 d_integer_fits [("thing" : Str)] (spP K mg M_integer_fits) := cal_integer_fits T
  obtain ⟨fd, F0⟩ := T.says.def_ (d := d_is_integer) (mem_at 8 rfl)
  have F : FunD K d_is_integer.name d_is_integer.qual d_is_integer.params d_is_integer.body d_is_integer.scope [] [] (He.fAd K d_is_integer.at_) fd := F0
  have B : Binds K fd [("thing" : Str)] [] := F.bindsN fun _ _ _ _ _ _ us hl => match us, hl with | [_], _ => rfl
  have glo : mg d_is_integer.name = some (.ref (He.fAd K d_is_integer.at_)) := T.glo "is_integer" (mem_at 8 rfl)
  refine ⟨⟨fd, F, ?_, B⟩, glo⟩
  refine fnP_ok F sc_is_integer (by decide) ?_
  intro cdv A outer s H E hgd hr
  exact ⟨_, (pss_one (ps_ret (pe_cal c_integer_fits hgd hr (by decide) (passEN (L2N.takes_of rfl rfl rfl rfl)) (pa_cons (pv 0) pa_nil)))),
  (ss_ret (se_callD (sa_cons se_var sa_nil)))⟩
theorem cal_want_many (T : TX K mg) : CalG P w K mg base 4 d_want_many [("many" : Str)] (spP K mg M_want_many) := by
  have c_a_want : CalG P w K mg base 3 d_a_want [("good" : Str), ("word" : Str)] (spP K mg M_a_want) := cal_a_want T
  have c_is_integer : CalG P w K mg base 2 d_is_integer [("thing" : Str)] (spP K mg M_is_integer) := cal_is_integer T
  obtain ⟨fd, F0⟩ := T.says.def_ (d := d_want_many) (mem_at 9 rfl)
  have F : FunD K d_want_many.name d_want_many.qual d_want_many.params d_want_many.body d_want_many.scope [] [] (He.fAd K d_want_many.at_) fd := F0
  have B : Binds K fd [("many" : Str)] [] := F.bindsN fun _ _ _ _ _ _ us hl => match us, hl with | [_], _ => rfl
  have glo : mg d_want_many.name = some (.ref (He.fAd K d_want_many.at_)) := T.glo "want_many" (mem_at 9 rfl)
  refine ⟨⟨fd, F, ?_, B⟩, glo⟩
  refine fnP_ok F sc_want_many (by decide) ?_
  intro cdv A outer s H E hgd hr
  exact ⟨_, (pss_one (ps_expr (pe_cal c_a_want hgd hr (by decide) (passEN (L2N.takes_of rfl rfl rfl rfl)) (pa_cons (pe_and (pe_cal c_is_integer hgd hr (by decide) (passEN (L2N.takes_of rfl rfl rfl rfl)) (pa_cons (pv 0) pa_nil)) (pe_one (pe_cmpR (op_geG (room65 hr)) (pv 0) pe_int (nomark _)))) (pa_cons pe_str pa_nil))))),
  (ss_drop (se_callD (sa_cons (se_and (se_callD (sa_cons se_var sa_nil)) (se_2 o_ge se_var se_int)) (sa_cons se_str sa_nil))))⟩
theorem cal_number_fits (T : TX K mg) : CalG P w K mg base 2 d_number_fits [("thing" : Str)] (spP K mg M_number_fits) := by
  have c_integer_fits : CalG P w K mg base 1 d_integer_fits [("thing" : Str)] (spP K mg M_integer_fits) := cal_integer_fits T
  obtain ⟨fd, F0⟩ := T.says.def_ (d := d_number_fits) (mem_at 10 rfl)
  have F : FunD K d_number_fits.name d_number_fits.qual d_number_fits.params d_number_fits.body d_number_fits.scope [] [] (He.fAd K d_number_fits.at_) fd := F0
  have B : Binds K fd [("thing" : Str)] [] := F.bindsN fun _ _ _ _ _ _ us hl => match us, hl with | [_], _ => rfl
  have glo : mg d_number_fits.name = some (.ref (He.fAd K d_number_fits.at_)) := T.glo "number_fits" (mem_at 10 rfl)
  refine ⟨⟨fd, F, ?_, B⟩, glo⟩
  refine fnP_ok F sc_number_fits (by decide) ?_
  intro cdv A outer s H E hgd hr
  exact ⟨_, (pss_one (ps_ret (pe_and (pe_cal c_integer_fits hgd hr (by decide) (passEN (L2N.takes_of rfl rfl rfl rfl)) (pa_cons (pv 0) pa_nil)) (pe_one (pe_cmpR (op_geG (room65 hr)) (pv 0) pe_int (nomark _)))))),
  (ss_ret (se_and (se_callD (sa_cons se_var sa_nil)) (se_2 o_ge se_var se_int)))⟩
theorem cal_house_fits (T : TX K mg) : CalG P w K mg base 3 d_house_fits [("many" : Str), ("thing" : Str)] (spP K mg M_house_fits) := by
  have c_number_fits : CalG P w K mg base 2 d_number_fits [("thing" : Str)] (spP K mg M_number_fits) := cal_number_fits T
  obtain ⟨fd, F0⟩ := T.says.def_ (d := d_house_fits) (mem_at 11 rfl)
  have F : FunD K d_house_fits.name d_house_fits.qual d_house_fits.params d_house_fits.body d_house_fits.scope [] [] (He.fAd K d_house_fits.at_) fd := F0
  have B : Binds K fd [("many" : Str), ("thing" : Str)] [] := F.bindsN fun _ _ _ _ _ _ us hl => match us, hl with | [_, _], _ => rfl
  have glo : mg d_house_fits.name = some (.ref (He.fAd K d_house_fits.at_)) := T.glo "house_fits" (mem_at 11 rfl)
  refine ⟨⟨fd, F, ?_, B⟩, glo⟩
  refine fnP_ok F sc_house_fits (by decide) ?_
  intro cdv A outer s H E hgd hr
  exact ⟨_, (pss_one (ps_ret (pe_and (pe_cal c_number_fits hgd hr (by decide) (passEN (L2N.takes_of rfl rfl rfl rfl)) (pa_cons (pv 1) pa_nil)) (pe_one (pe_cmpR (op_ltG (room65 hr)) (pv 1) (pv 0) (nomark _)))))),
  (ss_ret (se_and (se_callD (sa_cons se_var sa_nil)) (se_2 o_lt se_var se_var)))⟩
theorem cal_lot_fits (T : TX K mg) : CalG P w K mg base 4 d_lot_fits [("many" : Str), ("thing" : Str)] (spP K mg M_lot_fits) := by
  have c_house_fits : CalG P w K mg base 3 d_house_fits [("many" : Str), ("thing" : Str)] (spP K mg M_house_fits) := cal_house_fits T
  have f_isinstance : mg "isinstance" = none := T.free "isinstance" (mem_at 46 rfl)
  have f_tuple : mg "tuple" = none := T.free "tuple" (mem_at 51 rfl)
  obtain ⟨fd, F0⟩ := T.says.def_ (d := d_lot_fits) (mem_at 12 rfl)
  have F : FunD K d_lot_fits.name d_lot_fits.qual d_lot_fits.params d_lot_fits.body d_lot_fits.scope [] [] (He.fAd K d_lot_fits.at_) fd := F0
  have B : Binds K fd [("many" : Str), ("thing" : Str)] [] := F.bindsN fun _ _ _ _ _ _ us hl => match us, hl with | [_, _], _ => rfl
  have glo : mg d_lot_fits.name = some (.ref (He.fAd K d_lot_fits.at_)) := T.glo "lot_fits" (mem_at 12 rfl)
  refine ⟨⟨fd, F, ?_, B⟩, glo⟩
  refine fnP_ok F sc_lot_fits (by decide) ?_
  intro cdv A outer s H E hgd hr
  exact ⟨_, (pss_cons (ps_if (pt_not (pt_truth (pe_callB call_isiM (by rfl) (by exact f_isinstance) boot_isinstance (pa_cons (pv 1) (pa_cons (pe_bltn (v := .ty (Ty.nm .tup)) (by rfl) (by exact f_tuple) (by decide +kernel) rfl) pa_nil))) fun _ => rfl)) (pss_one (ps_ret pe_bl)) pss_nil)
  (pss_cons (ps_set (i := 2) sc_lot_fits.nd rfl (Or.inl rfl) (pe_un un_neg pe_int))
  (pss_cons (ps_for (passes_of rfl) rfl (pi_seq (pv 1)) (pg_name (i := 3) sc_lot_fits.nd rfl (Or.inl rfl)) (pss_cons (ps_if (PW.pt (pw_or (pt_not (pt_truth (pe_cal c_house_fits hgd hr (by decide) (passEN (L2N.takes_of rfl rfl rfl rfl)) (pa_cons (pv 0) (pa_cons (pv 3) pa_nil))) fun _ => rfl)) (pw_or1 (pt_cmpR (op_leG (room65 hr)) (pv 3) (pv 2) (nomark _))))) (pss_one (ps_ret pe_bl)) pss_nil)
  (pss_one (ps_set (i := 2) sc_lot_fits.nd rfl (Or.inl rfl) (pv 3)))))
  (pss_one (ps_ret pe_bl))))),
  (ss_seq (ss_if (st_not (st_tru (se_isi .tup se_var))) (ss_ret se_bl) ss_next)
  (ss_seq (ss_asg (se_1 o_neg se_int) sg_name)
  (ss_seq (ss_for (si_seq se_var) sg_name (ss_seq (ss_if (st_or (st_not (st_tru (se_callD (sa_cons se_var (sa_cons se_var sa_nil))))) (st_test (se_2 o_le se_var se_var))) (ss_ret se_bl) ss_next)
  (ss_asg se_var sg_name)))
  (ss_ret se_bl))))⟩
theorem cal_is_lots (T : TX K mg) : CalG P w K mg base 5 d_is_lots [("many" : Str), ("thing" : Str)] (spP K mg M_is_lots) := by
  have c_lot_fits : CalG P w K mg base 4 d_lot_fits [("many" : Str), ("thing" : Str)] (spP K mg M_lot_fits) := cal_lot_fits T
  have f_all : mg "all" = none := T.free "all" (mem_at 43 rfl)
  have f_isinstance : mg "isinstance" = none := T.free "isinstance" (mem_at 46 rfl)
  have f_tuple : mg "tuple" = none := T.free "tuple" (mem_at 51 rfl)
  obtain ⟨fd, F0⟩ := T.says.def_ (d := d_is_lots) (mem_at 13 rfl)
  have F : FunD K d_is_lots.name d_is_lots.qual d_is_lots.params d_is_lots.body d_is_lots.scope [] [] (He.fAd K d_is_lots.at_) fd := F0
  have B : Binds K fd [("many" : Str), ("thing" : Str)] [] := F.bindsN fun _ _ _ _ _ _ us hl => match us, hl with | [_, _], _ => rfl
  have glo : mg d_is_lots.name = some (.ref (He.fAd K d_is_lots.at_)) := T.glo "is_lots" (mem_at 13 rfl)
  refine ⟨⟨fd, F, ?_, B⟩, glo⟩
  refine fnP_ok F sc_is_lots (by decide) ?_
  intro cdv A outer s H E hgd hr
  exact ⟨_, (pss_one (ps_ret (pe_and (pe_callB call_isiM (by rfl) (by exact f_isinstance) boot_isinstance (pa_cons (pv 1) (pa_cons (pe_bltn (v := .ty (Ty.nm .tup)) (by rfl) (by exact f_tuple) (by decide +kernel) rfl) pa_nil))) (pe_one (pe_callB (cr_all (by rfl)) (by rfl) (by exact f_all) (by decide +kernel) (pa_cons (pe_lc (own := [(("lot" : Str), 2)]) (g := gName 2) rfl sc_is_lots.nd (pi_seq (pv 1)) (blkOk_by (own := [(("lot" : Str), 2)]) (N := N_is_lots) (sc := d_is_lots.scope) (by decide +kernel)) (fun _ _ _ _ _ => pg_name (i := 2) sc_is_lots.nd rfl (by first | exact Or.inl rfl | exact Or.inr rfl)) (fun _ _ _ _ _ => pts_nil) (fun _ _ _ _ _ => (pe_cal c_lot_fits hgd hr (by decide) passF (pa_cons (pv 0) (pa_cons (pv 2) pa_nil))))) pa_nil)))))),
  (ss_ret (se_and (se_isi .tup se_var) (se_n o_all (sa_cons (se_l (sl_lc (si_seq se_var) (by decide) sg_name st_yes (se_callD (sa_cons se_var (sa_cons se_var sa_nil))))) sa_nil))))⟩
theorem cal_want_lots (T : TX K mg) : CalG P w K mg base 6 d_want_lots [("many" : Str), ("lots" : Str)] (spP K mg M_want_lots) := by
  have c_a_want : CalG P w K mg base 3 d_a_want [("good" : Str), ("word" : Str)] (spP K mg M_a_want) := cal_a_want T
  have c_is_lots : CalG P w K mg base 5 d_is_lots [("many" : Str), ("thing" : Str)] (spP K mg M_is_lots) := cal_is_lots T
  have f_len : mg "len" = none := T.free "len" (mem_at 47 rfl)
  obtain ⟨fd, F0⟩ := T.says.def_ (d := d_want_lots) (mem_at 14 rfl)
  have F : FunD K d_want_lots.name d_want_lots.qual d_want_lots.params d_want_lots.body d_want_lots.scope [] [] (He.fAd K d_want_lots.at_) fd := F0
  have B : Binds K fd [("many" : Str), ("lots" : Str)] [] := F.bindsN fun _ _ _ _ _ _ us hl => match us, hl with | [_, _], _ => rfl
  have glo : mg d_want_lots.name = some (.ref (He.fAd K d_want_lots.at_)) := T.glo "want_lots" (mem_at 14 rfl)
  refine ⟨⟨fd, F, ?_, B⟩, glo⟩
  refine fnP_ok F sc_want_lots (by decide) ?_
  intro cdv A outer s H E hgd hr
  exact ⟨_, (pss_one (ps_expr (pe_cal c_a_want hgd hr (by decide) (passEN (L2N.takes_of rfl rfl rfl rfl)) (pa_cons (pe_and (pe_cal c_is_lots hgd hr (by decide) (passEN (L2N.takes_of rfl rfl rfl rfl)) (pa_cons (pv 0) (pa_cons (pv 1) pa_nil))) (pe_one (pe_cmpR (op_gtG (room65 hr)) (pe_callB call_len_seq (by rfl) (by exact f_len) (by decide +kernel) (pa_cons (pv 1) pa_nil)) pe_int (nomark _)))) (pa_cons pe_str pa_nil))))),
  (ss_drop (se_callD (sa_cons (se_and (se_callD (sa_cons se_var (sa_cons se_var sa_nil))) (se_2 o_gt (se_n o_len (sa_cons se_var sa_nil)) se_int)) (sa_cons se_str sa_nil))))⟩
theorem cal_least_outside (T : TX K mg) : CalG P w K mg base 1 d_least_outside [("many" : Str), ("one" : Str), ("other" : Str)] (spP K mg M_least_outside) := by
  have f_range : mg "range" = none := T.free "range" (mem_at 49 rfl)
  obtain ⟨fd, F0⟩ := T.says.def_ (d := d_least_outside) (mem_at 15 rfl)
  have F : FunD K d_least_outside.name d_least_outside.qual d_least_outside.params d_least_outside.body d_least_outside.scope [] [] (He.fAd K d_least_outside.at_) fd := F0
  have B : Binds K fd [("many" : Str), ("one" : Str), ("other" : Str)] [] := F.bindsN fun _ _ _ _ _ _ us hl => match us, hl with | [_, _, _], _ => rfl
  have glo : mg d_least_outside.name = some (.ref (He.fAd K d_least_outside.at_)) := T.glo "least_outside" (mem_at 15 rfl)
  refine ⟨⟨fd, F, ?_, B⟩, glo⟩
  refine fnP_ok F sc_least_outside (by decide) ?_
  intro cdv A outer s H E hgd hr
  exact ⟨_, (pss_cons (ps_for (passes_of rfl) rfl (pi_range1 (by rfl) (by exact f_range) (pa_cons (pv 0) pa_nil)) (pg_name (i := 3) sc_least_outside.nd rfl (Or.inl rfl)) (pss_one (ps_if (PW.pt (pw_and (pt_cmpR (op_notInG (room65 hr)) (pv 3) (pv 1) (by with_unfolding_all rfl)) (pw_and1 (pt_cmpR (op_notInG (room65 hr)) (pv 3) (pv 2) (by with_unfolding_all rfl))))) (pss_one (ps_ret (pv 3))) pss_nil)))
  (pss_one (ps_ret pe_non))),
  (ss_seq (ss_for (si_rng1 (sa_cons se_var sa_nil)) sg_name (ss_if (st_and (st_test (se_2 o_notIn se_var se_var)) (st_test (se_2 o_notIn se_var se_var))) (ss_ret se_var) ss_next))
  (ss_ret se_non))⟩
theorem cal_dealt_to (T : TX K mg) : CalG P w K mg base 2 d_dealt_to [("many" : Str), ("lots" : Str)] (spP K mg M_dealt_to) := by
  have c_least_outside : CalG P w K mg base 1 d_least_outside [("many" : Str), ("one" : Str), ("other" : Str)] (spP K mg M_least_outside) := cal_least_outside T
  have f_len : mg "len" = none := T.free "len" (mem_at 47 rfl)
  have f_range : mg "range" = none := T.free "range" (mem_at 49 rfl)
  have f_tuple : mg "tuple" = none := T.free "tuple" (mem_at 51 rfl)
  obtain ⟨fd, F0⟩ := T.says.def_ (d := d_dealt_to) (mem_at 16 rfl)
  have F : FunD K d_dealt_to.name d_dealt_to.qual d_dealt_to.params d_dealt_to.body d_dealt_to.scope [] [] (He.fAd K d_dealt_to.at_) fd := F0
  have B : Binds K fd [("many" : Str), ("lots" : Str)] [] := F.bindsN fun _ _ _ _ _ _ us hl => match us, hl with | [_, _], _ => rfl
  have glo : mg d_dealt_to.name = some (.ref (He.fAd K d_dealt_to.at_)) := T.glo "dealt_to" (mem_at 16 rfl)
  refine ⟨⟨fd, F, ?_, B⟩, glo⟩
  refine fnP_ok F sc_dealt_to (by decide) ?_
  intro cdv A outer s H E hgd hr
  exact ⟨_, (pss_cons (ps_setLc (i := 2) (own := [(("_" : Str), 5)]) (g := gName 5) rfl sc_dealt_to.nd rfl rfl (sw_true rfl rfl rfl (by decide +kernel)) (pi_range1 (by rfl) (by exact f_range) (pa_cons (pv 0) pa_nil)) (blkOk_by (own := [(("_" : Str), 5)]) (N := N_dealt_to) (sc := d_dealt_to.scope) (by decide +kernel)) (fun _ _ _ _ _ => pg_name (i := 5) sc_dealt_to.nd rfl (by first | exact Or.inl rfl | exact Or.inr rfl)) (fun _ _ _ _ _ => pts_nil) (fun _ _ _ _ _ => (pe_lst pa_nil)))
  (pss_cons (ps_for (passes_of rfl) rfl (pi_range1 (by rfl) (by exact f_range) (pa_cons (pe_callB call_len_seq (by rfl) (by exact f_len) (by decide +kernel) (pa_cons (pv 1) pa_nil)) pa_nil)) (pg_name (i := 3) sc_dealt_to.nd rfl (Or.inl rfl)) (pss_one (ps_for (passes_of rfl) rfl (pi_range1 (by rfl) (by exact f_range) (pa_cons (pe_callB call_len_seq (by rfl) (by exact f_len) (by decide +kernel) (pa_cons (pv 1) pa_nil)) pa_nil)) (pg_name (i := 4) sc_dealt_to.nd rfl (Or.inl rfl)) (pss_cons (ps_set (i := 6) sc_dealt_to.nd rfl (Or.inl rfl) (pe_cal c_least_outside hgd hr (by decide) (passEN (L2N.takes_of rfl rfl rfl rfl)) (pa_cons (pv 0) (pa_cons (pe_ix ix_seq (pv 1) (pv 3) fun _ _ => rfl) (pa_cons (pe_ix ix_seq (pv 1) (pv 4) fun _ _ => rfl) pa_nil)))))
  (pss_cons (ps_if (pt_cmpR op_isG (pv 6) pe_non (nomark _)) (pss_one (ps_ret pe_non)) pss_nil)
  (pss_one (ps_expr (pe_bm PySem.F.plainAttrs_list PySem.F.slot_list_append PySem.F.type_list_append mt_append (pe_ix ix_seq (pv 2) (pv 6) fun _ _ => rfl) (pa_cons (pe_tup (pa_cons (pv 3) (pa_cons (pv 4) pa_nil))) pa_nil)))))))))
  (pss_one (ps_ret (pe_callTy call_tuple_of (by rfl) (by exact f_tuple) (by decide +kernel) (pa_cons (pe_lc (own := [(("pairs" : Str), 7)]) (g := gName 7) rfl sc_dealt_to.nd (pi_seq (pv 2)) (blkOk_by (own := [(("pairs" : Str), 7)]) (N := N_dealt_to) (sc := d_dealt_to.scope) (by decide +kernel)) (fun _ _ _ _ _ => pg_name (i := 7) sc_dealt_to.nd rfl (by first | exact Or.inl rfl | exact Or.inr rfl)) (fun _ _ _ _ _ => pts_nil) (fun _ _ _ _ _ => (pe_callTy call_tuple_of (by rfl) (by exact f_tuple) (by decide +kernel) (pa_cons (pv 7) pa_nil)))) pa_nil)))))),
  (ss_seq (ss_asgW (sw_lc (si_rng1 (sa_cons se_var sa_nil)) (by decide) sg_name st_yes (sl_lst sa_nil)))
  (ss_seq (ss_for (si_rng1 (sa_cons (se_n o_len (sa_cons se_var sa_nil)) sa_nil)) sg_name (ss_for (si_rng1 (sa_cons (se_n o_len (sa_cons se_var sa_nil)) sa_nil)) sg_name (ss_seq (ss_asg (se_callD (sa_cons se_var (sa_cons (se_2 o_ix se_var se_var) (sa_cons (se_2 o_ix se_var se_var) sa_nil)))) sg_name)
  (ss_seq (ss_if (st_test (se_2 o_is se_var se_non)) (ss_ret se_non) ss_next)
  (ss_appLL se_var (se_tup (sa_cons se_var (sa_cons se_var sa_nil))))))))
  (ss_ret (se_n o_tuple (sa_cons (se_l (sl_lc (si_seq se_frz) (by decide) sg_name st_yes (se_n o_tuple (sa_cons se_var sa_nil)))) sa_nil)))))⟩
theorem cal_dealt_pairs (T : TX K mg) : CalG P w K mg base 7 d_dealt_pairs [("many" : Str), ("lots" : Str)] (spP K mg M_dealt_pairs) := by
  have c_want_many : CalG P w K mg base 4 d_want_many [("many" : Str)] (spP K mg M_want_many) := cal_want_many T
  have c_want_lots : CalG P w K mg base 6 d_want_lots [("many" : Str), ("lots" : Str)] (spP K mg M_want_lots) := cal_want_lots T
  have c_dealt_to : CalG P w K mg base 2 d_dealt_to [("many" : Str), ("lots" : Str)] (spP K mg M_dealt_to) := cal_dealt_to T
  have c_a_want : CalG P w K mg base 3 d_a_want [("good" : Str), ("word" : Str)] (spP K mg M_a_want) := cal_a_want T
  obtain ⟨fd, F0⟩ := T.says.def_ (d := d_dealt_pairs) (mem_at 17 rfl)
  have F : FunD K d_dealt_pairs.name d_dealt_pairs.qual d_dealt_pairs.params d_dealt_pairs.body d_dealt_pairs.scope [] [] (He.fAd K d_dealt_pairs.at_) fd := F0
  have B : Binds K fd [("many" : Str), ("lots" : Str)] [] := F.bindsN fun _ _ _ _ _ _ us hl => match us, hl with | [_, _], _ => rfl
  have glo : mg d_dealt_pairs.name = some (.ref (He.fAd K d_dealt_pairs.at_)) := T.glo "dealt_pairs" (mem_at 17 rfl)
  refine ⟨⟨fd, F, ?_, B⟩, glo⟩
  refine fnP_ok F sc_dealt_pairs (by decide) ?_
  intro cdv A outer s H E hgd hr
  exact ⟨_, (pss_cons (ps_expr (pe_cal c_want_many hgd hr (by decide) (passEN (L2N.takes_of rfl rfl rfl rfl)) (pa_cons (pv 0) pa_nil)))
  (pss_cons (ps_expr (pe_cal c_want_lots hgd hr (by decide) (passEN (L2N.takes_of rfl rfl rfl rfl)) (pa_cons (pv 0) (pa_cons (pv 1) pa_nil))))
  (pss_cons (ps_set (i := 2) sc_dealt_pairs.nd rfl (Or.inl rfl) (pe_cal c_dealt_to hgd hr (by decide) (passEN (L2N.takes_of rfl rfl rfl rfl)) (pa_cons (pv 0) (pa_cons (pv 1) pa_nil))))
  (pss_cons (ps_expr (pe_cal c_a_want hgd hr (by decide) (passEN (L2N.takes_of rfl rfl rfl rfl)) (pa_cons (pe_cmpR op_isNotG (pv 2) pe_non (nomark _)) (pa_cons pe_str pa_nil))))
  (pss_one (ps_ret (pv 2))))))),
  (ss_seq (ss_drop (se_callD (sa_cons se_var sa_nil)))
  (ss_seq (ss_drop (se_callD (sa_cons se_var (sa_cons se_var sa_nil))))
  (ss_seq (ss_asg (se_callD (sa_cons se_var (sa_cons se_var sa_nil))) sg_name)
  (ss_seq (ss_drop (se_callD (sa_cons (se_2 o_isNot se_var se_non) (sa_cons se_str sa_nil))))
  (ss_ret se_var)))))⟩
theorem cal_is_bit (T : TX K mg) : CalG P w K mg base 3 d_is_bit [("thing" : Str)] (spP K mg M_is_bit) := by
  have c_number_fits : CalG P w K mg base 2 d_number_fits [("thing" : Str)] (spP K mg M_number_fits) := cal_number_fits T
  obtain ⟨fd, F0⟩ := T.says.def_ (d := d_is_bit) (mem_at 18 rfl)
  have F : FunD K d_is_bit.name d_is_bit.qual d_is_bit.params d_is_bit.body d_is_bit.scope [] [] (He.fAd K d_is_bit.at_) fd := F0
  have B : Binds K fd [("thing" : Str)] [] := F.bindsN fun _ _ _ _ _ _ us hl => match us, hl with | [_], _ => rfl
  have glo : mg d_is_bit.name = some (.ref (He.fAd K d_is_bit.at_)) := T.glo "is_bit" (mem_at 18 rfl)
  refine ⟨⟨fd, F, ?_, B⟩, glo⟩
  refine fnP_ok F sc_is_bit (by decide) ?_
  intro cdv A outer s H E hgd hr
  exact ⟨_, (pss_one (ps_ret (pe_and (pe_cal c_number_fits hgd hr (by decide) (passEN (L2N.takes_of rfl rfl rfl rfl)) (pa_cons (pv 0) pa_nil)) (pe_one (pe_cmpR (op_leG (room65 hr)) (pv 0) pe_int (nomark _)))))),
  (ss_ret (se_and (se_callD (sa_cons se_var sa_nil)) (se_2 o_le se_var se_int)))⟩
theorem cal_is_bits (T : TX K mg) : CalG P w K mg base 4 d_is_bits [("thing" : Str)] (spP K mg M_is_bits) := by
  have c_is_bit : CalG P w K mg base 3 d_is_bit [("thing" : Str)] (spP K mg M_is_bit) := cal_is_bit T
  have f_all : mg "all" = none := T.free "all" (mem_at 43 rfl)
  have f_isinstance : mg "isinstance" = none := T.free "isinstance" (mem_at 46 rfl)
  have f_tuple : mg "tuple" = none := T.free "tuple" (mem_at 51 rfl)
  obtain ⟨fd, F0⟩ := T.says.def_ (d := d_is_bits) (mem_at 19 rfl)
  have F : FunD K d_is_bits.name d_is_bits.qual d_is_bits.params d_is_bits.body d_is_bits.scope [] [] (He.fAd K d_is_bits.at_) fd := F0
  have B : Binds K fd [("thing" : Str)] [] := F.bindsN fun _ _ _ _ _ _ us hl => match us, hl with | [_], _ => rfl
  have glo : mg d_is_bits.name = some (.ref (He.fAd K d_is_bits.at_)) := T.glo "is_bits" (mem_at 19 rfl)
  refine ⟨⟨fd, F, ?_, B⟩, glo⟩
  refine fnP_ok F sc_is_bits (by decide) ?_
  intro cdv A outer s H E hgd hr
  exact ⟨_, (pss_one (ps_ret (pe_and (pe_callB call_isiM (by rfl) (by exact f_isinstance) boot_isinstance (pa_cons (pv 0) (pa_cons (pe_bltn (v := .ty (Ty.nm .tup)) (by rfl) (by exact f_tuple) (by decide +kernel) rfl) pa_nil))) (pe_one (pe_callB (cr_all (by rfl)) (by rfl) (by exact f_all) (by decide +kernel) (pa_cons (pe_lc (own := [(("bit" : Str), 1)]) (g := gName 1) rfl sc_is_bits.nd (pi_seq (pv 0)) (blkOk_by (own := [(("bit" : Str), 1)]) (N := N_is_bits) (sc := d_is_bits.scope) (by decide +kernel)) (fun _ _ _ _ _ => pg_name (i := 1) sc_is_bits.nd rfl (by first | exact Or.inl rfl | exact Or.inr rfl)) (fun _ _ _ _ _ => pts_nil) (fun _ _ _ _ _ => (pe_cal c_is_bit hgd hr (by decide) passF (pa_cons (pv 1) pa_nil)))) pa_nil)))))),
  (ss_ret (se_and (se_isi .tup se_var) (se_n o_all (sa_cons (se_l (sl_lc (si_seq se_var) (by decide) sg_name st_yes (se_callD (sa_cons se_var sa_nil)))) sa_nil))))⟩
theorem cal_product_sums (T : TX K mg) : CalG P w K mg base 8 d_product_sums [("many" : Str), ("lots" : Str), ("one" : Str), ("other" : Str)] (spP K mg M_product_sums) := by
  have c_dealt_pairs : CalG P w K mg base 7 d_dealt_pairs [("many" : Str), ("lots" : Str)] (spP K mg M_dealt_pairs) := cal_dealt_pairs T
  have c_a_want : CalG P w K mg base 3 d_a_want [("good" : Str), ("word" : Str)] (spP K mg M_a_want) := cal_a_want T
  have c_is_bits : CalG P w K mg base 4 d_is_bits [("thing" : Str)] (spP K mg M_is_bits) := cal_is_bits T
  have f_len : mg "len" = none := T.free "len" (mem_at 47 rfl)
  have f_sum : mg "sum" = none := T.free "sum" (mem_at 50 rfl)
  have f_tuple : mg "tuple" = none := T.free "tuple" (mem_at 51 rfl)
  obtain ⟨fd, F0⟩ := T.says.def_ (d := d_product_sums) (mem_at 20 rfl)
  have F : FunD K d_product_sums.name d_product_sums.qual d_product_sums.params d_product_sums.body d_product_sums.scope [] [] (He.fAd K d_product_sums.at_) fd := F0
  have B : Binds K fd [("many" : Str), ("lots" : Str), ("one" : Str), ("other" : Str)] [] := F.bindsN fun _ _ _ _ _ _ us hl => match us, hl with | [_, _, _, _], _ => rfl
  have glo : mg d_product_sums.name = some (.ref (He.fAd K d_product_sums.at_)) := T.glo "product_sums" (mem_at 20 rfl)
  refine ⟨⟨fd, F, ?_, B⟩, glo⟩
  refine fnP_ok F sc_product_sums (by decide) ?_
  intro cdv A outer s H E hgd hr
  exact ⟨_, (pss_cons (ps_set (i := 4) sc_product_sums.nd rfl (Or.inl rfl) (pe_cal c_dealt_pairs hgd hr (by decide) (passEN (L2N.takes_of rfl rfl rfl rfl)) (pa_cons (pv 0) (pa_cons (pv 1) pa_nil))))
  (pss_cons (ps_expr (pe_cal c_a_want hgd hr (by decide) (passEN (L2N.takes_of rfl rfl rfl rfl)) (pa_cons (pe_and (pe_cal c_is_bits hgd hr (by decide) (passEN (L2N.takes_of rfl rfl rfl rfl)) (pa_cons (pv 2) pa_nil)) (pe_one (pe_cmpR (op_eqG (room65 hr)) (pe_callB call_len_seq (by rfl) (by exact f_len) (by decide +kernel) (pa_cons (pv 2) pa_nil)) (pe_callB call_len_seq (by rfl) (by exact f_len) (by decide +kernel) (pa_cons (pv 1) pa_nil)) (nomark _)))) (pa_cons pe_str pa_nil))))
  (pss_cons (ps_expr (pe_cal c_a_want hgd hr (by decide) (passEN (L2N.takes_of rfl rfl rfl rfl)) (pa_cons (pe_and (pe_cal c_is_bits hgd hr (by decide) (passEN (L2N.takes_of rfl rfl rfl rfl)) (pa_cons (pv 3) pa_nil)) (pe_one (pe_cmpR (op_eqG (room65 hr)) (pe_callB call_len_seq (by rfl) (by exact f_len) (by decide +kernel) (pa_cons (pv 3) pa_nil)) (pe_callB call_len_seq (by rfl) (by exact f_len) (by decide +kernel) (pa_cons (pv 1) pa_nil)) (nomark _)))) (pa_cons pe_str pa_nil))))
  (pss_one (ps_ret (pe_callTy call_tuple_of (by rfl) (by exact f_tuple) (by decide +kernel) (pa_cons (pe_lc (own := [(("pairs" : Str), 5)]) (g := gName 5) rfl sc_product_sums.nd (pi_seq (pv 4)) (blkOk_by (own := [(("pairs" : Str), 5)]) (N := N_product_sums) (sc := d_product_sums.scope) (by decide +kernel)) (fun _ _ _ _ _ => pg_name (i := 5) sc_product_sums.nd rfl (by first | exact Or.inl rfl | exact Or.inr rfl)) (fun _ _ _ _ _ => pts_nil) (fun _ _ _ _ _ => (pe_op op_mod (pe_callB (cr_sum (by rfl)) (by rfl) (by exact f_sum) (by decide +kernel) (pa_cons (pe_lc (own := [(("k" : Str), 6), (("j" : Str), 7)]) (g := gTup K 2 (gCons (gName 6) (gCons (gName 7) gNil))) rfl sc_product_sums.nd (pi_seq (pv 5)) (blkOk_by (own := [(("k" : Str), 6), (("j" : Str), 7)]) (by kernel_rfl)) (fun _ _ _ _ _ => pg_tup rfl (pgs_cons (pg_name (i := 6) sc_product_sums.nd rfl (by first | exact Or.inl rfl | exact Or.inr rfl)) (pgs_cons (pg_name (i := 7) sc_product_sums.nd rfl (by first | exact Or.inl rfl | exact Or.inr rfl)) pgs_nil))) (fun _ _ _ _ _ => pts_nil) (fun _ _ _ _ _ => (pe_op op_mulX (pe_ix ix_seq (pv 2) (pv 6) fun _ _ => rfl) (pe_ix ix_seq (pv 3) (pv 7) fun _ _ => rfl)))) pa_nil)) pe_int))) pa_nil))))))),
  (ss_seq (ss_asg (se_callD (sa_cons se_var (sa_cons se_var sa_nil))) sg_name)
  (ss_seq (ss_drop (se_callD (sa_cons (se_and (se_callD (sa_cons se_var sa_nil)) (se_2 o_eq (se_n o_len (sa_cons se_var sa_nil)) (se_n o_len (sa_cons se_var sa_nil)))) (sa_cons se_str sa_nil))))
  (ss_seq (ss_drop (se_callD (sa_cons (se_and (se_callD (sa_cons se_var sa_nil)) (se_2 o_eq (se_n o_len (sa_cons se_var sa_nil)) (se_n o_len (sa_cons se_var sa_nil)))) (sa_cons se_str sa_nil))))
  (ss_ret (se_n o_tuple (sa_cons (se_l (sl_lc (si_seq se_var) (by decide) sg_name st_yes (se_2 o_mod (se_n o_sum (sa_cons (se_l (sl_lc (si_seq se_var) (by decide) (sg_tup rfl (sgs_cons (sgs_cons sgs_nil))) st_yes (se_2 o_mul (se_2 o_ix se_var se_var) (se_2 o_ix se_var se_var)))) sa_nil)) se_int))) sa_nil))))))⟩
theorem ask__law_refused {X : Cx} (T : TX X.K X.mg) {q : Str} {g : Addr} (cdg : Value) : AsksN X N__law_refused d__law_refused.qual d__law_refused.scope g cdg d__law_refused.body "_law_ask" 1 q (TTm X.K X.mg M__law_refused) := by
  have f_bool : X.mg "bool" = none := T.free "bool" (mem_at 44 rfl)
  have f_int : X.mg "int" = none := T.free "int" (mem_at 45 rfl)
  have f_isinstance : X.mg "isinstance" = none := T.free "isinstance" (mem_at 46 rfl)
  exact asks_word (l := [(.ref (He.ga X.K "NotUsable"), 2, fun a cls d => tRet (tAndV (tOp (rD2 X.K fEq) (tXf a cls d (He.ga X.K "NotUsable") "word" (tVar 2)) (tVar 0)) (tAndV (tCB (rIsiM X.K) (tCons (tXf a cls d (He.ga X.K "NotUsable") "at" (tVar 2)) (tCons (tC (.ty (Ty.nm .int))) tNil))) (tAndV (tNotV (tCB (rIsiM X.K) (tCons (tXf a cls d (He.ga X.K "NotUsable") "at" (tVar 2)) (tCons (tC (.ty (Ty.nm .bool))) tNil)))) (tOp (rD2 X.K fEq) (tXf a cls d (He.ga X.K "NotUsable") "at" (tVar 2)) (tUn (rU fun i => .int (-i)) (tC (.int 1))))))))]) (ms := fun vs => [([(("NotUsable" : Str), true)], (xAnd (x2 fEq (xF "word") (xStr vs 0)) (xAnd (xIsi .int (xF "at")) (xAnd (xNot (xIsi .bool (xF "at"))) (x2 fEq (xF "at") (fun _ => .ok (.int (-1))))))))]) sc__law_refused.nd rfl (by decide)
      (fun s H Eg hgd hr => (.cons (i := 2) (c := .ref (He.ga X.K "NotUsable")) (ts := fun a cls d => tRet (tAndV (tOp (rD2 X.K fEq) (tXf a cls d (He.ga X.K "NotUsable") "word" (tVar 2)) (tVar 0)) (tAndV (tCB (rIsiM X.K) (tCons (tXf a cls d (He.ga X.K "NotUsable") "at" (tVar 2)) (tCons (tC (.ty (Ty.nm .int))) tNil))) (tAndV (tNotV (tCB (rIsiM X.K) (tCons (tXf a cls d (He.ga X.K "NotUsable") "at" (tVar 2)) (tCons (tC (.ty (Ty.nm .bool))) tNil)))) (tOp (rD2 X.K fEq) (tXf a cls d (He.ga X.K "NotUsable") "at" (tVar 2)) (tUn (rU fun i => .int (-i)) (tC (.int 1)))))))) rfl rfl ⟨rfl, by decide, .inl (T.glo "NotUsable" (mem_at 42 rfl))⟩
        (fun a oe cls d pn hz hf => (pss_one (ps_ret (pe_and (pe_cmpR (op_eqG (by have h0 := room65 hr; exact h0)) (pe_xf (C := He.ga X.K "NotUsable") (xf_NotUsable T) (no_NotUsable_word T) hz.zc hf (pv 2)) (pv 0) (nomark _)) (pe_and (pe_callB call_isiM (by rfl) (by exact f_isinstance) boot_isinstance (pa_cons (pe_xf (C := He.ga X.K "NotUsable") (xf_NotUsable T) (no_NotUsable_at T) hz.zc hf (pv 2)) (pa_cons (pe_bltn (v := .ty (Ty.nm .int)) (by rfl) (by exact f_int) (by decide +kernel) rfl) pa_nil))) (pe_and (pe_not (pe_callB call_isiM (by rfl) (by exact f_isinstance) boot_isinstance (pa_cons (pe_xf (C := He.ga X.K "NotUsable") (xf_NotUsable T) (no_NotUsable_at T) hz.zc hf (pv 2)) (pa_cons (pe_bltn (v := .ty (Ty.nm .bool)) (by rfl) (by exact f_bool) (by decide +kernel) rfl) pa_nil)))) (pe_one (pe_cmpR (op_eqG (by have h0 := room65 hr; exact h0)) (pe_xf (C := He.ga X.K "NotUsable") (xf_NotUsable T) (no_NotUsable_at T) hz.zc hf (pv 2)) (pe_un un_neg pe_int) (nomark _))))))))) .nil))
      (fun vs => (.cons (cs := [(("NotUsable" : Str), true)]) (by decide) (by decide) (hcm_NotUsable T) (fun a C dd h => by
          obtain rfl := onlym_NotUsable T h
          exact (sxvt_ret (sxv_and (sxv_2 o_eq (sxv_of sx_f) (sxv_str)) (sxv_and (sxv_isiT .int (sxv_of sx_f)) (sxv_and (sxv_notV (sxv_isiT .bool (sxv_of sx_f))) (sxv_of (sx_2 o_eq sx_f (sx_neg _)))))))) .nil))
theorem calq__law_refused (T : TX K mg) : ∃ fd, FunD K d__law_refused.name d__law_refused.qual d__law_refused.params d__law_refused.body d__law_refused.scope [] [] (He.fAd K d__law_refused.at_) fd ∧ Binds K fd [("_law_word" : Str), ("_law_ask" : Str)] [] ∧ mg d__law_refused.name = some (.ref (He.fAd K d__law_refused.at_)) := by
  obtain ⟨fd, F0⟩ := T.says.def_ (d := d__law_refused) (mem_at 21 rfl)
  have F : FunD K d__law_refused.name d__law_refused.qual d__law_refused.params d__law_refused.body d__law_refused.scope [] [] (He.fAd K d__law_refused.at_) fd := F0
  exact ⟨fd, F, F.bindsN fun _ _ _ _ _ _ us hl => match us, hl with | [_, _], _ => rfl, T.glo "_law_refused" (mem_at 21 rfl)⟩
theorem cal_is_number (T : TX K mg) : CalG P w K mg base 3 d_is_number [("thing" : Str)] (spP K mg M_is_number) := by
  have c_number_fits : CalG P w K mg base 2 d_number_fits [("thing" : Str)] (spP K mg M_number_fits) := cal_number_fits T
  obtain ⟨fd, F0⟩ := T.says.def_ (d := d_is_number) (mem_at 22 rfl)
  have F : FunD K d_is_number.name d_is_number.qual d_is_number.params d_is_number.body d_is_number.scope [] [] (He.fAd K d_is_number.at_) fd := F0
  have B : Binds K fd [("thing" : Str)] [] := F.bindsN fun _ _ _ _ _ _ us hl => match us, hl with | [_], _ => rfl
  have glo : mg d_is_number.name = some (.ref (He.fAd K d_is_number.at_)) := T.glo "is_number" (mem_at 22 rfl)
  refine ⟨⟨fd, F, ?_, B⟩, glo⟩
  refine fnP_ok F sc_is_number (by decide) ?_
  intro cdv A outer s H E hgd hr
  exact ⟨_, (pss_one (ps_ret (pe_cal c_number_fits hgd hr (by decide) (passEN (L2N.takes_of rfl rfl rfl rfl)) (pa_cons (pv 0) pa_nil)))),
  (ss_ret (se_callD (sa_cons se_var sa_nil)))⟩
theorem cal_gets_of (T : TX K mg) : CalG P w K mg base 7 d_gets_of [("many" : Str), ("lots" : Str), ("house" : Str), ("pieces" : Str)] (spP K mg M_gets_of) := by
  have c_want_many : CalG P w K mg base 4 d_want_many [("many" : Str)] (spP K mg M_want_many) := cal_want_many T
  have c_want_lots : CalG P w K mg base 6 d_want_lots [("many" : Str), ("lots" : Str)] (spP K mg M_want_lots) := cal_want_lots T
  have c_a_want : CalG P w K mg base 3 d_a_want [("good" : Str), ("word" : Str)] (spP K mg M_a_want) := cal_a_want T
  have c_is_number : CalG P w K mg base 3 d_is_number [("thing" : Str)] (spP K mg M_is_number) := cal_is_number T
  have c_is_bits : CalG P w K mg base 4 d_is_bits [("thing" : Str)] (spP K mg M_is_bits) := cal_is_bits T
  have f_len : mg "len" = none := T.free "len" (mem_at 47 rfl)
  have f_range : mg "range" = none := T.free "range" (mem_at 49 rfl)
  have f_tuple : mg "tuple" = none := T.free "tuple" (mem_at 51 rfl)
  obtain ⟨fd, F0⟩ := T.says.def_ (d := d_gets_of) (mem_at 23 rfl)
  have F : FunD K d_gets_of.name d_gets_of.qual d_gets_of.params d_gets_of.body d_gets_of.scope [] [] (He.fAd K d_gets_of.at_) fd := F0
  have B : Binds K fd [("many" : Str), ("lots" : Str), ("house" : Str), ("pieces" : Str)] [] := F.bindsN fun _ _ _ _ _ _ us hl => match us, hl with | [_, _, _, _], _ => rfl
  have glo : mg d_gets_of.name = some (.ref (He.fAd K d_gets_of.at_)) := T.glo "gets_of" (mem_at 23 rfl)
  refine ⟨⟨fd, F, ?_, B⟩, glo⟩
  refine fnP_ok F sc_gets_of (by decide) ?_
  intro cdv A outer s H E hgd hr
  exact ⟨_, (pss_cons (ps_expr (pe_cal c_want_many hgd hr (by decide) (passEN (L2N.takes_of rfl rfl rfl rfl)) (pa_cons (pv 0) pa_nil)))
  (pss_cons (ps_expr (pe_cal c_want_lots hgd hr (by decide) (passEN (L2N.takes_of rfl rfl rfl rfl)) (pa_cons (pv 0) (pa_cons (pv 1) pa_nil))))
  (pss_cons (ps_expr (pe_cal c_a_want hgd hr (by decide) (passEN (L2N.takes_of rfl rfl rfl rfl)) (pa_cons (pe_and (pe_cal c_is_number hgd hr (by decide) (passEN (L2N.takes_of rfl rfl rfl rfl)) (pa_cons (pv 2) pa_nil)) (pe_one (pe_cmpR (op_ltG (room65 hr)) (pv 2) (pv 0) (nomark _)))) (pa_cons pe_str pa_nil))))
  (pss_cons (ps_expr (pe_cal c_a_want hgd hr (by decide) (passEN (L2N.takes_of rfl rfl rfl rfl)) (pa_cons (pe_and (pe_cal c_is_bits hgd hr (by decide) (passEN (L2N.takes_of rfl rfl rfl rfl)) (pa_cons (pv 3) pa_nil)) (pe_one (pe_cmpR (op_eqG (room65 hr)) (pe_callB call_len_seq (by rfl) (by exact f_len) (by decide +kernel) (pa_cons (pv 3) pa_nil)) (pe_callB call_len_seq (by rfl) (by exact f_len) (by decide +kernel) (pa_cons (pv 1) pa_nil)) (nomark _)))) (pa_cons pe_str pa_nil))))
  (pss_one (ps_ret (pe_callTy call_tuple_of (by rfl) (by exact f_tuple) (by decide +kernel) (pa_cons (pe_lc (own := [(("k" : Str), 4)]) (g := gName 4) rfl sc_gets_of.nd (pi_range1 (by rfl) (by exact f_range) (pa_cons (pe_callB call_len_seq (by rfl) (by exact f_len) (by decide +kernel) (pa_cons (pv 1) pa_nil)) pa_nil)) (blkOk_by (own := [(("k" : Str), 4)]) (N := N_gets_of) (sc := d_gets_of.scope) (by decide +kernel)) (fun _ _ _ _ _ => pg_name (i := 4) sc_gets_of.nd rfl (by first | exact Or.inl rfl | exact Or.inr rfl)) (fun _ _ _ _ _ => pts_one (pt_cmpR (op_notInG (room65 hr)) (pv 2) (pe_ix ix_seq (pv 1) (pv 4) fun _ _ => rfl) (by with_unfolding_all rfl))) (fun _ _ _ _ _ => (pe_ix ix_seq (pv 3) (pv 4) fun _ _ => rfl))) pa_nil)))))))),
  (ss_seq (ss_drop (se_callD (sa_cons se_var sa_nil)))
  (ss_seq (ss_drop (se_callD (sa_cons se_var (sa_cons se_var sa_nil))))
  (ss_seq (ss_drop (se_callD (sa_cons (se_and (se_callD (sa_cons se_var sa_nil)) (se_2 o_lt se_var se_var)) (sa_cons se_str sa_nil))))
  (ss_seq (ss_drop (se_callD (sa_cons (se_and (se_callD (sa_cons se_var sa_nil)) (se_2 o_eq (se_n o_len (sa_cons se_var sa_nil)) (se_n o_len (sa_cons se_var sa_nil)))) (sa_cons se_str sa_nil))))
  (ss_ret (se_n o_tuple (sa_cons (se_l (sl_lc (si_rng1 (sa_cons (se_n o_len (sa_cons se_var sa_nil)) sa_nil)) (by decide) sg_name (st_test (se_2 o_notIn se_var (se_2 o_ix se_var se_var))) (se_2 o_ix se_var se_var))) sa_nil)))))))⟩
theorem cal_many_fits (T : TX K mg) : CalG P w K mg base 2 d_many_fits [("thing" : Str)] (spP K mg M_many_fits) := by
  have c_integer_fits : CalG P w K mg base 1 d_integer_fits [("thing" : Str)] (spP K mg M_integer_fits) := cal_integer_fits T
  obtain ⟨fd, F0⟩ := T.says.def_ (d := d_many_fits) (mem_at 24 rfl)
  have F : FunD K d_many_fits.name d_many_fits.qual d_many_fits.params d_many_fits.body d_many_fits.scope [] [] (He.fAd K d_many_fits.at_) fd := F0
  have B : Binds K fd [("thing" : Str)] [] := F.bindsN fun _ _ _ _ _ _ us hl => match us, hl with | [_], _ => rfl
  have glo : mg d_many_fits.name = some (.ref (He.fAd K d_many_fits.at_)) := T.glo "many_fits" (mem_at 24 rfl)
  refine ⟨⟨fd, F, ?_, B⟩, glo⟩
  refine fnP_ok F sc_many_fits (by decide) ?_
  intro cdv A outer s H E hgd hr
  exact ⟨_, (pss_one (ps_ret (pe_and (pe_cal c_integer_fits hgd hr (by decide) (passEN (L2N.takes_of rfl rfl rfl rfl)) (pa_cons (pv 0) pa_nil)) (pe_one (pe_cmpR (op_geG (room65 hr)) (pv 0) pe_int (nomark _)))))),
  (ss_ret (se_and (se_callD (sa_cons se_var sa_nil)) (se_2 o_ge se_var se_int)))⟩
theorem cal_is_lot (T : TX K mg) : CalG P w K mg base 5 d_is_lot [("many" : Str), ("thing" : Str)] (spP K mg M_is_lot) := by
  have c_a_want : CalG P w K mg base 3 d_a_want [("good" : Str), ("word" : Str)] (spP K mg M_a_want) := cal_a_want T
  have c_lot_fits : CalG P w K mg base 4 d_lot_fits [("many" : Str), ("thing" : Str)] (spP K mg M_lot_fits) := cal_lot_fits T
  have c_many_fits : CalG P w K mg base 2 d_many_fits [("thing" : Str)] (spP K mg M_many_fits) := cal_many_fits T
  obtain ⟨fd, F0⟩ := T.says.def_ (d := d_is_lot) (mem_at 25 rfl)
  have F : FunD K d_is_lot.name d_is_lot.qual d_is_lot.params d_is_lot.body d_is_lot.scope [] [] (He.fAd K d_is_lot.at_) fd := F0
  have B : Binds K fd [("many" : Str), ("thing" : Str)] [] := F.bindsN fun _ _ _ _ _ _ us hl => match us, hl with | [_, _], _ => rfl
  have glo : mg d_is_lot.name = some (.ref (He.fAd K d_is_lot.at_)) := T.glo "is_lot" (mem_at 25 rfl)
  refine ⟨⟨fd, F, ?_, B⟩, glo⟩
  refine fnP_ok F sc_is_lot (by decide) ?_
  intro cdv A outer s H E hgd hr
  exact ⟨_, (pss_cons (ps_expr (pe_cal c_a_want hgd hr (by decide) (passEN (L2N.takes_of rfl rfl rfl rfl)) (pa_cons (pe_cal c_many_fits hgd hr (by decide) (passEN (L2N.takes_of rfl rfl rfl rfl)) (pa_cons (pv 0) pa_nil)) (pa_cons pe_str pa_nil))))
  (pss_one (ps_ret (pe_cal c_lot_fits hgd hr (by decide) (passEN (L2N.takes_of rfl rfl rfl rfl)) (pa_cons (pv 0) (pa_cons (pv 1) pa_nil)))))),
  (ss_seq (ss_drop (se_callD (sa_cons (se_callD (sa_cons se_var sa_nil)) (sa_cons se_str sa_nil))))
  (ss_ret (se_callD (sa_cons se_var (sa_cons se_var sa_nil)))))⟩
theorem cal_helper_of (T : TX K mg) : CalG P w K mg base 6 d_helper_of [("many" : Str), ("one" : Str), ("other" : Str)] (spP K mg M_helper_of) := by
  have c_want_many : CalG P w K mg base 4 d_want_many [("many" : Str)] (spP K mg M_want_many) := cal_want_many T
  have c_a_want : CalG P w K mg base 3 d_a_want [("good" : Str), ("word" : Str)] (spP K mg M_a_want) := cal_a_want T
  have c_least_outside : CalG P w K mg base 1 d_least_outside [("many" : Str), ("one" : Str), ("other" : Str)] (spP K mg M_least_outside) := cal_least_outside T
  have c_is_lot : CalG P w K mg base 5 d_is_lot [("many" : Str), ("thing" : Str)] (spP K mg M_is_lot) := cal_is_lot T
  obtain ⟨fd, F0⟩ := T.says.def_ (d := d_helper_of) (mem_at 26 rfl)
  have F : FunD K d_helper_of.name d_helper_of.qual d_helper_of.params d_helper_of.body d_helper_of.scope [] [] (He.fAd K d_helper_of.at_) fd := F0
  have B : Binds K fd [("many" : Str), ("one" : Str), ("other" : Str)] [] := F.bindsN fun _ _ _ _ _ _ us hl => match us, hl with | [_, _, _], _ => rfl
  have glo : mg d_helper_of.name = some (.ref (He.fAd K d_helper_of.at_)) := T.glo "helper_of" (mem_at 26 rfl)
  refine ⟨⟨fd, F, ?_, B⟩, glo⟩
  refine fnP_ok F sc_helper_of (by decide) ?_
  intro cdv A outer s H E hgd hr
  exact ⟨_, (pss_cons (ps_expr (pe_cal c_want_many hgd hr (by decide) (passEN (L2N.takes_of rfl rfl rfl rfl)) (pa_cons (pv 0) pa_nil)))
  (pss_cons (ps_expr (pe_cal c_a_want hgd hr (by decide) (passEN (L2N.takes_of rfl rfl rfl rfl)) (pa_cons (pe_cal c_is_lot hgd hr (by decide) (passEN (L2N.takes_of rfl rfl rfl rfl)) (pa_cons (pv 0) (pa_cons (pv 1) pa_nil))) (pa_cons pe_str pa_nil))))
  (pss_cons (ps_expr (pe_cal c_a_want hgd hr (by decide) (passEN (L2N.takes_of rfl rfl rfl rfl)) (pa_cons (pe_cal c_is_lot hgd hr (by decide) (passEN (L2N.takes_of rfl rfl rfl rfl)) (pa_cons (pv 0) (pa_cons (pv 2) pa_nil))) (pa_cons pe_str pa_nil))))
  (pss_one (ps_ret (pe_cal c_least_outside hgd hr (by decide) (passEN (L2N.takes_of rfl rfl rfl rfl)) (pa_cons (pv 0) (pa_cons (pv 1) (pa_cons (pv 2) pa_nil))))))))),
  (ss_seq (ss_drop (se_callD (sa_cons se_var sa_nil)))
  (ss_seq (ss_drop (se_callD (sa_cons (se_callD (sa_cons se_var (sa_cons se_var sa_nil))) (sa_cons se_str sa_nil))))
  (ss_seq (ss_drop (se_callD (sa_cons (se_callD (sa_cons se_var (sa_cons se_var sa_nil))) (sa_cons se_str sa_nil))))
  (ss_ret (se_callD (sa_cons se_var (sa_cons se_var (sa_cons se_var sa_nil))))))))⟩
theorem cal__law_later_refusals (T : TX K mg) : CalG P w K mg base 11 d__law_later_refusals [("_law_state" : Str), ("_law_many" : Str), ("_law_lots_here" : Str), ("_law_row" : Str)] (spD K mg M__law_later_refusals) := by
  have c__law_odd_bits : CalG P w K mg base 1 d__law_odd_bits [("_law_many" : Str)] (spP K mg M__law_odd_bits) := cal__law_odd_bits T
  have c__law_same : CalG P w K mg base 6 d__law_same [("_law_told" : Str), ("_law_due" : Str)] (spP K mg M__law_same) := cal__law_same T
  have c_product_sums : CalG P w K mg base 8 d_product_sums [("many" : Str), ("lots" : Str), ("one" : Str), ("other" : Str)] (spP K mg M_product_sums) := cal_product_sums T
  obtain ⟨fdq__law_refused, Fq__law_refused, Bq__law_refused, gq__law_refused⟩ := calq__law_refused T
  have c_gets_of : CalG P w K mg base 7 d_gets_of [("many" : Str), ("lots" : Str), ("house" : Str), ("pieces" : Str)] (spP K mg M_gets_of) := cal_gets_of T
  have c_helper_of : CalG P w K mg base 6 d_helper_of [("many" : Str), ("one" : Str), ("other" : Str)] (spP K mg M_helper_of) := cal_helper_of T
  have c__law_draw : CalG P w K mg base 1 d__law_draw [("_law_state" : Str), ("_law_many" : Str)] (spD K mg M__law_draw) := cal__law_draw T
  have c_dealt_pairs : CalG P w K mg base 7 d_dealt_pairs [("many" : Str), ("lots" : Str)] (spP K mg M_dealt_pairs) := cal_dealt_pairs T
  have f_int : mg "int" = none := T.free "int" (mem_at 45 rfl)
  have f_len : mg "len" = none := T.free "len" (mem_at 47 rfl)
  have f_range : mg "range" = none := T.free "range" (mem_at 49 rfl)
  have f_tuple : mg "tuple" = none := T.free "tuple" (mem_at 51 rfl)
  obtain ⟨fd, F0⟩ := T.says.def_ (d := d__law_later_refusals) (mem_at 27 rfl)
  have F : FunD K d__law_later_refusals.name d__law_later_refusals.qual d__law_later_refusals.params d__law_later_refusals.body d__law_later_refusals.scope [] [] (He.fAd K d__law_later_refusals.at_) fd := F0
  have B : Binds K fd [("_law_state" : Str), ("_law_many" : Str), ("_law_lots_here" : Str), ("_law_row" : Str)] [] := F.bindsN fun _ _ _ _ _ _ us hl => match us, hl with | [_, _, _, _], _ => rfl
  have glo : mg d__law_later_refusals.name = some (.ref (He.fAd K d__law_later_refusals.at_)) := T.glo "_law_later_refusals" (mem_at 27 rfl)
  refine ⟨⟨fd, F, ?_, B⟩, glo⟩
  obtain ⟨⟨cc, PP⟩, ht⟩ := tab__law_later_refusals T
  refine fnD_okC F sc__law_later_refusals (by decide) ?_
  intro cdv A outer s H E hci hgd hr
  exact ⟨_, (pss_cons (ps_for (passes_of rfl) rfl (pi_seq (pe_tup (pa_cons (pv 1) (pa_cons (pe_un un_neg pe_int) (pa_cons pe_bl (pa_cons pe_bl (pa_cons pe_non (pa_cons pe_str (pa_cons (pe_tup (pa_cons pe_int pa_nil)) pa_nil))))))))) (pg_name (i := 4) sc__law_later_refusals.nd rfl (Or.inr rfl)) (pss_one (ps_if (pt_not (pt_truth (pe_lam2 (k := 7) gq__law_refused Fq__law_refused.kp Fq__law_refused sc__law_refused rfl (.inl rfl) rfl Bq__law_refused (fun cdg => ask__law_refused T cdg) (LB.tb "_law_later_refusals" (by decide) _ _ ht) (hci _ _ ht glo) hgd (hr.mono (by decide)) (LamX.lamS_by (sc := d__law_later_refusals.scope) (by decide +kernel)) rfl (fun _ _ _ _ _ => rfl) pe_str (fun A outer s H E f c hgd hr => (pe_cal (E := fun _ => E) c_gets_of hgd hr (by decide) (passEN takes_lamN) (pa_cons (pv 1) (pa_cons (pv 2) (pa_cons (pv 4) (pa_cons pe_non pa_nil))))))) fun _ => rfl)) (pss_one (ps_ret pe_bl)) pss_nil)))
  (pss_cons (ps_for (passes_of rfl) rfl (pi_seq (pe_tup (pa_cons pe_non (pa_cons pe_int (pa_cons (pe_lst (pa_cons pe_int pa_nil)) (pa_cons (pe_tup (pa_cons pe_int (pa_cons pe_int pa_nil))) (pa_cons (pe_tup (pa_cons (pv 1) pa_nil)) (pa_cons (pe_tup (pa_cons (pe_un un_neg pe_int) pa_nil)) (pa_cons (pe_tup (pa_cons pe_bl pa_nil)) (pa_cons pe_str (pa_cons (pe_tup (pa_cons pe_str pa_nil)) pa_nil))))))))))) (pg_name (i := 4) sc__law_later_refusals.nd rfl (Or.inr rfl)) (pss_cons (ps_if (pt_not (pt_truth (pe_lam2 (k := 6) gq__law_refused Fq__law_refused.kp Fq__law_refused sc__law_refused rfl (.inl rfl) rfl Bq__law_refused (fun cdg => ask__law_refused T cdg) (LB.tb "_law_later_refusals" (by decide) _ _ ht) (hci _ _ ht glo) hgd (hr.mono (by decide)) (LamX.lamS_by (sc := d__law_later_refusals.scope) (by decide +kernel)) rfl (fun _ _ _ _ _ => rfl) pe_str (fun A outer s H E f c hgd hr => (pe_cal (E := fun _ => E) c_helper_of hgd hr (by decide) (passEN takes_lamN) (pa_cons (pv 1) (pa_cons (pv 4) (pa_cons pe_non pa_nil)))))) fun _ => rfl)) (pss_one (ps_ret pe_bl)) pss_nil)
  (pss_one (ps_if (pt_not (pt_truth (pe_lam2 (k := 6) gq__law_refused Fq__law_refused.kp Fq__law_refused sc__law_refused rfl (.inl rfl) rfl Bq__law_refused (fun cdg => ask__law_refused T cdg) (LB.tb "_law_later_refusals" (by decide) _ _ ht) (hci _ _ ht glo) hgd (hr.mono (by decide)) (LamX.lamS_by (sc := d__law_later_refusals.scope) (by decide +kernel)) rfl (fun _ _ _ _ _ => rfl) pe_str (fun A outer s H E f c hgd hr => (pe_cal (E := fun _ => E) c_helper_of hgd hr (by decide) (passEN takes_lamN) (pa_cons (pv 1) (pa_cons (pe_tup pa_nil) (pa_cons (pv 4) pa_nil)))))) fun _ => rfl)) (pss_one (ps_ret pe_bl)) pss_nil))))
  (pss_cons (ps_set (i := 5) sc__law_later_refusals.nd rfl (Or.inr rfl) (pe_op op_mulT (pe_tup (pa_cons (pe_tup pa_nil) pa_nil)) (pe_callB call_len_seq (by rfl) (by exact f_len) (by decide +kernel) (pa_cons (pv 2) pa_nil))))
  (pss_cons (ps_for (passes_of rfl) rfl (pi_seq (pe_cal c__law_odd_bits hgd hr (by decide) (passEN (L2N.takes_of rfl rfl rfl rfl)) (pa_cons (pe_callB call_len_seq (by rfl) (by exact f_len) (by decide +kernel) (pa_cons (pv 2) pa_nil)) pa_nil))) (pg_name (i := 4) sc__law_later_refusals.nd rfl (Or.inr rfl)) (pss_cons (ps_if (pt_not (pt_truth (pe_lam2 (k := 7) gq__law_refused Fq__law_refused.kp Fq__law_refused sc__law_refused rfl (.inl rfl) rfl Bq__law_refused (fun cdg => ask__law_refused T cdg) (LB.tb "_law_later_refusals" (by decide) _ _ ht) (hci _ _ ht glo) hgd (hr.mono (by decide)) (LamX.lamS_by (sc := d__law_later_refusals.scope) (by decide +kernel)) rfl (fun _ _ _ _ _ => rfl) pe_str (fun A outer s H E f c hgd hr => (pe_cal (E := fun _ => E) c_gets_of hgd hr (by decide) (passEN takes_lamN) (pa_cons (pv 1) (pa_cons (pv 2) (pa_cons pe_int (pa_cons (pv 4) pa_nil))))))) fun _ => rfl)) (pss_one (ps_ret pe_bl)) pss_nil)
  (pss_cons (ps_if (pt_not (pt_truth (pe_lam2 (k := 8) gq__law_refused Fq__law_refused.kp Fq__law_refused sc__law_refused rfl (.inl rfl) rfl Bq__law_refused (fun cdg => ask__law_refused T cdg) (LB.tb "_law_later_refusals" (by decide) _ _ ht) (hci _ _ ht glo) hgd (hr.mono (by decide)) (LamX.lamS_by (sc := d__law_later_refusals.scope) (by decide +kernel)) rfl (fun _ _ _ _ _ => rfl) pe_str (fun A outer s H E f c hgd hr => (pe_cal (E := fun _ => E) c_product_sums hgd hr (by decide) (passEN takes_lamN) (pa_cons (pv 1) (pa_cons (pv 5) (pa_cons (pv 4) (pa_cons (pv 4) pa_nil))))))) fun _ => rfl)) (pss_one (ps_ret pe_bl)) pss_nil)
  (pss_one (ps_if (pt_not (pt_truth (pe_lam2 (k := 8) gq__law_refused Fq__law_refused.kp Fq__law_refused sc__law_refused rfl (.inl rfl) rfl Bq__law_refused (fun cdg => ask__law_refused T cdg) (LB.tb "_law_later_refusals" (by decide) _ _ ht) (hci _ _ ht glo) hgd (hr.mono (by decide)) (LamX.lamS_by (sc := d__law_later_refusals.scope) (by decide +kernel)) rfl (fun _ _ _ _ _ => rfl) pe_str (fun A outer s H E f c hgd hr => (pe_cal (E := fun _ => E) c_product_sums hgd hr (by decide) (passEN takes_lamN) (pa_cons (pv 1) (pa_cons (pv 5) (pa_cons (pv 3) (pa_cons (pv 4) pa_nil))))))) fun _ => rfl)) (pss_one (ps_ret pe_bl)) pss_nil)))))
  (pss_cons (ps_set (i := 6) sc__law_later_refusals.nd rfl (Or.inl rfl) (pe_tupRg (by rfl) (by rfl) (by exact f_tuple) (prg_1 (by rfl) (by exact f_range) (pv 1))))
  (pss_cons (ps_set (i := 7) sc__law_later_refusals.nd rfl (Or.inr rfl) (pe_callTy call_tuple_of (by rfl) (by exact f_tuple) (by decide +kernel) (pa_cons (pe_lc (own := [(("_law_house" : Str), 10)]) (g := gName 10) rfl sc__law_later_refusals.nd (pi_seq (pv 6)) (blkOk_by (own := [(("_law_house" : Str), 10)]) (N := N__law_later_refusals) (sc := d__law_later_refusals.scope) (by decide +kernel)) (fun _ _ _ _ _ => pg_name (i := 10) sc__law_later_refusals.nd rfl (by first | exact Or.inl rfl | exact Or.inr rfl)) (fun _ _ _ _ _ => pts_one (pt_cmpR (op_eqG (room65 hr)) (pe_cal c__law_draw hgd hr (by decide) passF (pa_cons (pv 0) (pa_cons pe_int pa_nil))) pe_int (nomark _))) (fun _ _ _ _ _ => (pv 10))) pa_nil)))
  (pss_cons (ps_set (i := 8) sc__law_later_refusals.nd rfl (Or.inl rfl) (pe_callTy call_tuple_of (by rfl) (by exact f_tuple) (by decide +kernel) (pa_cons (pe_lc (own := [(("_law_house" : Str), 10)]) (g := gName 10) rfl sc__law_later_refusals.nd (pi_seq (pv 6)) (blkOk_by (own := [(("_law_house" : Str), 10)]) (N := N__law_later_refusals) (sc := d__law_later_refusals.scope) (by decide +kernel)) (fun _ _ _ _ _ => pg_name (i := 10) sc__law_later_refusals.nd rfl (by first | exact Or.inl rfl | exact Or.inr rfl)) (fun _ _ _ _ _ => pts_one (pt_cmpR (op_notInG (room65 hr)) (pv 10) (pv 7) (by with_unfolding_all rfl))) (fun _ _ _ _ _ => (pv 10))) pa_nil)))
  (pss_cons (ps_for (passes_of rfl) rfl (pi_seq (pe_tup (pa_cons (pe_tup (pa_cons (pv 6) pa_nil)) (pa_cons (pe_tup (pa_cons (pe_tup pa_nil) (pa_cons (pv 6) pa_nil))) (pa_cons (pe_tup (pa_cons (pv 7) (pa_cons (pv 8) pa_nil))) (pa_cons (pe_tup (pa_cons (pv 8) (pa_cons (pe_tup pa_nil) (pa_cons (pv 7) pa_nil)))) pa_nil)))))) (pg_name (i := 9) sc__law_later_refusals.nd rfl (Or.inr rfl)) (pss_cons (ps_if (pt_not (pt_truth (pe_lam2 (k := 7) gq__law_refused Fq__law_refused.kp Fq__law_refused sc__law_refused rfl (.inl rfl) rfl Bq__law_refused (fun cdg => ask__law_refused T cdg) (LB.tb "_law_later_refusals" (by decide) _ _ ht) (hci _ _ ht glo) hgd (hr.mono (by decide)) (LamX.lamS_by (sc := d__law_later_refusals.scope) (by decide +kernel)) rfl (fun _ _ _ _ _ => rfl) pe_str (fun A outer s H E f c hgd hr => (pe_cal (E := fun _ => E) c_dealt_pairs hgd hr (by decide) (passEN takes_lamN) (pa_cons (pv 1) (pa_cons (pv 9) pa_nil))))) fun _ => rfl)) (pss_one (ps_ret pe_bl)) pss_nil)
  (pss_one (ps_if (pt_not (pt_truth (pe_lam2 (k := 8) gq__law_refused Fq__law_refused.kp Fq__law_refused sc__law_refused rfl (.inl rfl) rfl Bq__law_refused (fun cdg => ask__law_refused T cdg) (LB.tb "_law_later_refusals" (by decide) _ _ ht) (hci _ _ ht glo) hgd (hr.mono (by decide)) (LamX.lamS_by (sc := d__law_later_refusals.scope) (by decide +kernel)) rfl (fun _ _ _ _ _ => rfl) pe_str (fun A outer s H E f c hgd hr => (pe_cal (E := fun _ => E) c_product_sums hgd hr (by decide) (passEN takes_lamN) (pa_cons (pv 1) (pa_cons (pv 9) (pa_cons pe_int (pa_cons pe_int pa_nil))))))) fun _ => rfl)) (pss_one (ps_ret pe_bl)) pss_nil))))
  (pss_one (ps_ret (pe_cal c__law_same hgd hr (by decide) (passEN (L2N.takes_of rfl rfl rfl rfl)) (pa_cons (pe_cal c_product_sums hgd hr (by decide) (passEN (L2N.takes_of rfl rfl rfl rfl)) (pa_cons (pv 1) (pa_cons (pv 5) (pa_cons (pv 3) (pa_cons (pv 3) pa_nil))))) (pa_cons (pe_op op_add3 (pe_tup (pa_cons (pe_op op_mod (pe_callTy call_int1 (by rfl) (by exact f_int) (by decide +kernel) (pa_cons (pe_op op_mulX (pe_callB call_len_seq (by rfl) (by exact f_len) (by decide +kernel) (pa_cons (pv 2) pa_nil)) (pe_callB call_len_seq (by rfl) (by exact f_len) (by decide +kernel) (pa_cons (pv 2) pa_nil))) pa_nil)) pe_int) pa_nil)) (pe_op op_mulT (pe_tup (pa_cons pe_int pa_nil)) (pe_op op_sub (pv 1) pe_int))) pa_nil))))))))))))),
  (ss_seq (ss_for (si_seq (se_tup (sa_cons se_var (sa_cons (se_1 o_neg se_int) (sa_cons se_bl (sa_cons se_bl (sa_cons se_non (sa_cons se_str (sa_cons (se_tup (sa_cons se_int sa_nil)) sa_nil))))))))) sg_name (ss_if (st_not (st_tru (se_ask (tb_mem (x := "_law_later_refusals") (by decide) ht) LB.nd (sa_cons se_str sa_nil) (fun E => (se_callD (sa_cons se_var (sa_cons se_var (sa_cons se_var (sa_cons se_non sa_nil))))))))) (ss_ret se_bl) ss_next))
  (ss_seq (ss_for (si_seq (se_tup (sa_cons se_non (sa_cons se_int (sa_cons (se_l (sl_lst (sa_cons se_int sa_nil))) (sa_cons (se_tup (sa_cons se_int (sa_cons se_int sa_nil))) (sa_cons (se_tup (sa_cons se_var sa_nil)) (sa_cons (se_tup (sa_cons (se_1 o_neg se_int) sa_nil)) (sa_cons (se_tup (sa_cons se_bl sa_nil)) (sa_cons se_str (sa_cons (se_tup (sa_cons se_str sa_nil)) sa_nil))))))))))) sg_name (ss_seq (ss_if (st_not (st_tru (se_ask (tb_mem (x := "_law_later_refusals") (by decide) ht) LB.nd (sa_cons se_str sa_nil) (fun E => (se_callD (sa_cons se_var (sa_cons se_var (sa_cons se_non sa_nil)))))))) (ss_ret se_bl) ss_next)
  (ss_if (st_not (st_tru (se_ask (tb_mem (x := "_law_later_refusals") (by decide) ht) LB.nd (sa_cons se_str sa_nil) (fun E => (se_callD (sa_cons se_var (sa_cons (se_tup sa_nil) (sa_cons se_var sa_nil)))))))) (ss_ret se_bl) ss_next)))
  (ss_seq (ss_asg (se_2 o_mulT (se_tup (sa_cons (se_tup sa_nil) sa_nil)) (se_n o_len (sa_cons se_var sa_nil))) sg_name)
  (ss_seq (ss_for (si_seq (se_callD (sa_cons (se_n o_len (sa_cons se_var sa_nil)) sa_nil))) sg_name (ss_seq (ss_if (st_not (st_tru (se_ask (tb_mem (x := "_law_later_refusals") (by decide) ht) LB.nd (sa_cons se_str sa_nil) (fun E => (se_callD (sa_cons se_var (sa_cons se_var (sa_cons se_int (sa_cons se_var sa_nil))))))))) (ss_ret se_bl) ss_next)
  (ss_seq (ss_if (st_not (st_tru (se_ask (tb_mem (x := "_law_later_refusals") (by decide) ht) LB.nd (sa_cons se_str sa_nil) (fun E => (se_callD (sa_cons se_var (sa_cons se_var (sa_cons se_var (sa_cons se_var sa_nil))))))))) (ss_ret se_bl) ss_next)
  (ss_if (st_not (st_tru (se_ask (tb_mem (x := "_law_later_refusals") (by decide) ht) LB.nd (sa_cons se_str sa_nil) (fun E => (se_callD (sa_cons se_var (sa_cons se_var (sa_cons se_var (sa_cons se_var sa_nil))))))))) (ss_ret se_bl) ss_next))))
  (ss_seq (ss_asg (se_tupR1 se_var) sg_name)
  (ss_seq (ss_asg (se_n o_tuple (sa_cons (se_l (sl_lc (si_seq se_var) (by decide) sg_name (st_test (se_2 o_eq (se_callM (sa_cons se_int sa_nil)) se_int)) se_var)) sa_nil)) sg_name)
  (ss_seq (ss_asg (se_n o_tuple (sa_cons (se_l (sl_lc (si_seq se_var) (by decide) sg_name (st_test (se_2 o_notIn se_var se_var)) se_var)) sa_nil)) sg_name)
  (ss_seq (ss_for (si_seq (se_tup (sa_cons (se_tup (sa_cons se_var sa_nil)) (sa_cons (se_tup (sa_cons (se_tup sa_nil) (sa_cons se_var sa_nil))) (sa_cons (se_tup (sa_cons se_var (sa_cons se_var sa_nil))) (sa_cons (se_tup (sa_cons se_var (sa_cons (se_tup sa_nil) (sa_cons se_var sa_nil)))) sa_nil)))))) sg_name (ss_seq (ss_if (st_not (st_tru (se_ask (tb_mem (x := "_law_later_refusals") (by decide) ht) LB.nd (sa_cons se_str sa_nil) (fun E => (se_callD (sa_cons se_var (sa_cons se_var sa_nil))))))) (ss_ret se_bl) ss_next)
  (ss_if (st_not (st_tru (se_ask (tb_mem (x := "_law_later_refusals") (by decide) ht) LB.nd (sa_cons se_str sa_nil) (fun E => (se_callD (sa_cons se_var (sa_cons se_var (sa_cons se_int (sa_cons se_int sa_nil))))))))) (ss_ret se_bl) ss_next)))
  (ss_ret (se_callD (sa_cons (se_callD (sa_cons se_var (sa_cons se_var (sa_cons se_var (sa_cons se_var sa_nil))))) (sa_cons (se_2 o_add (se_tup (sa_cons (se_2 o_mod (se_n o_int (sa_cons (se_2 o_mul (se_n o_len (sa_cons se_var sa_nil)) (se_n o_len (sa_cons se_var sa_nil))) sa_nil)) se_int) sa_nil)) (se_2 o_mulT (se_tup (sa_cons se_int sa_nil)) (se_2 o_sub se_var se_int))) sa_nil))))))))))))⟩
theorem cal_pieces_of (T : TX K mg) : CalG P w K mg base 5 d_pieces_of [("bit" : Str), ("throws" : Str)] (spP K mg M_pieces_of) := by
  have c_a_want : CalG P w K mg base 3 d_a_want [("good" : Str), ("word" : Str)] (spP K mg M_a_want) := cal_a_want T
  have c_is_bit : CalG P w K mg base 3 d_is_bit [("thing" : Str)] (spP K mg M_is_bit) := cal_is_bit T
  have c_is_bits : CalG P w K mg base 4 d_is_bits [("thing" : Str)] (spP K mg M_is_bits) := cal_is_bits T
  have f_sum : mg "sum" = none := T.free "sum" (mem_at 50 rfl)
  obtain ⟨fd, F0⟩ := T.says.def_ (d := d_pieces_of) (mem_at 28 rfl)
  have F : FunD K d_pieces_of.name d_pieces_of.qual d_pieces_of.params d_pieces_of.body d_pieces_of.scope [] [] (He.fAd K d_pieces_of.at_) fd := F0
  have B : Binds K fd [("bit" : Str), ("throws" : Str)] [] := F.bindsN fun _ _ _ _ _ _ us hl => match us, hl with | [_, _], _ => rfl
  have glo : mg d_pieces_of.name = some (.ref (He.fAd K d_pieces_of.at_)) := T.glo "pieces_of" (mem_at 28 rfl)
  refine ⟨⟨fd, F, ?_, B⟩, glo⟩
  refine fnP_ok F sc_pieces_of (by decide) ?_
  intro cdv A outer s H E hgd hr
  exact ⟨_, (pss_cons (ps_expr (pe_cal c_a_want hgd hr (by decide) (passEN (L2N.takes_of rfl rfl rfl rfl)) (pa_cons (pe_cal c_is_bit hgd hr (by decide) (passEN (L2N.takes_of rfl rfl rfl rfl)) (pa_cons (pv 0) pa_nil)) (pa_cons pe_str pa_nil))))
  (pss_cons (ps_expr (pe_cal c_a_want hgd hr (by decide) (passEN (L2N.takes_of rfl rfl rfl rfl)) (pa_cons (pe_cal c_is_bits hgd hr (by decide) (passEN (L2N.takes_of rfl rfl rfl rfl)) (pa_cons (pv 1) pa_nil)) (pa_cons pe_str pa_nil))))
  (pss_one (ps_ret (pe_op op_add3 (pv 1) (pe_tup (pa_cons (pe_op op_mod (pe_op op_add3 (pv 0) (pe_callB (cr_sumT (by rfl)) (by rfl) (by exact f_sum) (by decide +kernel) (pa_cons (pv 1) pa_nil))) pe_int) pa_nil))))))),
  (ss_seq (ss_drop (se_callD (sa_cons (se_callD (sa_cons se_var sa_nil)) (sa_cons se_str sa_nil))))
  (ss_seq (ss_drop (se_callD (sa_cons (se_callD (sa_cons se_var sa_nil)) (sa_cons se_str sa_nil))))
  (ss_ret (se_2 o_add se_var (se_tup (sa_cons (se_2 o_mod (se_2 o_add se_var (se_n o_sumT (sa_cons se_var sa_nil))) se_int) sa_nil))))))⟩
theorem cal_bit_of (T : TX K mg) : CalG P w K mg base 5 d_bit_of [("pieces" : Str)] (spP K mg M_bit_of) := by
  have c_a_want : CalG P w K mg base 3 d_a_want [("good" : Str), ("word" : Str)] (spP K mg M_a_want) := cal_a_want T
  have c_is_bits : CalG P w K mg base 4 d_is_bits [("thing" : Str)] (spP K mg M_is_bits) := cal_is_bits T
  have f_sum : mg "sum" = none := T.free "sum" (mem_at 50 rfl)
  obtain ⟨fd, F0⟩ := T.says.def_ (d := d_bit_of) (mem_at 29 rfl)
  have F : FunD K d_bit_of.name d_bit_of.qual d_bit_of.params d_bit_of.body d_bit_of.scope [] [] (He.fAd K d_bit_of.at_) fd := F0
  have B : Binds K fd [("pieces" : Str)] [] := F.bindsN fun _ _ _ _ _ _ us hl => match us, hl with | [_], _ => rfl
  have glo : mg d_bit_of.name = some (.ref (He.fAd K d_bit_of.at_)) := T.glo "bit_of" (mem_at 29 rfl)
  refine ⟨⟨fd, F, ?_, B⟩, glo⟩
  refine fnP_ok F sc_bit_of (by decide) ?_
  intro cdv A outer s H E hgd hr
  exact ⟨_, (pss_cons (ps_expr (pe_cal c_a_want hgd hr (by decide) (passEN (L2N.takes_of rfl rfl rfl rfl)) (pa_cons (pe_cal c_is_bits hgd hr (by decide) (passEN (L2N.takes_of rfl rfl rfl rfl)) (pa_cons (pv 0) pa_nil)) (pa_cons pe_str pa_nil))))
  (pss_one (ps_ret (pe_op op_mod (pe_callB (cr_sumT (by rfl)) (by rfl) (by exact f_sum) (by decide +kernel) (pa_cons (pv 0) pa_nil)) pe_int)))),
  (ss_seq (ss_drop (se_callD (sa_cons (se_callD (sa_cons se_var sa_nil)) (sa_cons se_str sa_nil))))
  (ss_ret (se_2 o_mod (se_n o_sumT (sa_cons se_var sa_nil)) se_int)))⟩
theorem cal__law_refusals (T : TX K mg) : CalG P w K mg base 12 d__law_refusals [("_law_state" : Str), ("_law_many" : Str), ("_law_lots_here" : Str)] (spD K mg M__law_refusals) := by
  have c__law_odd_lots : CalG P w K mg base 1 d__law_odd_lots [("_law_many" : Str)] (spP K mg M__law_odd_lots) := cal__law_odd_lots T
  have c__law_later_refusals : CalG P w K mg base 11 d__law_later_refusals [("_law_state" : Str), ("_law_many" : Str), ("_law_lots_here" : Str), ("_law_row" : Str)] (spD K mg M__law_later_refusals) := cal__law_later_refusals T
  obtain ⟨fdq__law_refused, Fq__law_refused, Bq__law_refused, gq__law_refused⟩ := calq__law_refused T
  have c_pieces_of : CalG P w K mg base 5 d_pieces_of [("bit" : Str), ("throws" : Str)] (spP K mg M_pieces_of) := cal_pieces_of T
  have c_bit_of : CalG P w K mg base 5 d_bit_of [("pieces" : Str)] (spP K mg M_bit_of) := cal_bit_of T
  have c_gets_of : CalG P w K mg base 7 d_gets_of [("many" : Str), ("lots" : Str), ("house" : Str), ("pieces" : Str)] (spP K mg M_gets_of) := cal_gets_of T
  have c_helper_of : CalG P w K mg base 6 d_helper_of [("many" : Str), ("one" : Str), ("other" : Str)] (spP K mg M_helper_of) := cal_helper_of T
  have c_dealt_pairs : CalG P w K mg base 7 d_dealt_pairs [("many" : Str), ("lots" : Str)] (spP K mg M_dealt_pairs) := cal_dealt_pairs T
  have c_product_sums : CalG P w K mg base 8 d_product_sums [("many" : Str), ("lots" : Str), ("one" : Str), ("other" : Str)] (spP K mg M_product_sums) := cal_product_sums T
  have f_len : mg "len" = none := T.free "len" (mem_at 47 rfl)
  obtain ⟨fd, F0⟩ := T.says.def_ (d := d__law_refusals) (mem_at 30 rfl)
  have F : FunD K d__law_refusals.name d__law_refusals.qual d__law_refusals.params d__law_refusals.body d__law_refusals.scope [] [] (He.fAd K d__law_refusals.at_) fd := F0
  have B : Binds K fd [("_law_state" : Str), ("_law_many" : Str), ("_law_lots_here" : Str)] [] := F.bindsN fun _ _ _ _ _ _ us hl => match us, hl with | [_, _, _], _ => rfl
  have glo : mg d__law_refusals.name = some (.ref (He.fAd K d__law_refusals.at_)) := T.glo "_law_refusals" (mem_at 30 rfl)
  refine ⟨⟨fd, F, ?_, B⟩, glo⟩
  obtain ⟨⟨cc, PP⟩, ht⟩ := tab__law_refusals T
  refine fnD_okC F sc__law_refusals (by decide) ?_
  intro cdv A outer s H E hci hgd hr
  exact ⟨_, (pss_cons (ps_set (i := 3) sc__law_refusals.nd rfl (Or.inr rfl) (pe_op op_mulT (pe_tup (pa_cons pe_int pa_nil)) (pe_callB call_len_seq (by rfl) (by exact f_len) (by decide +kernel) (pa_cons (pv 2) pa_nil))))
  (pss_cons (ps_for (passes_of rfl) rfl (pi_seq (pe_tup (pa_cons pe_int (pa_cons (pe_un un_neg pe_int) (pa_cons pe_bl (pa_cons pe_bl (pa_cons pe_non (pa_cons pe_str (pa_cons (pe_tup (pa_cons pe_int pa_nil)) (pa_cons (pe_lst (pa_cons pe_int pa_nil)) pa_nil)))))))))) (pg_name (i := 4) sc__law_refusals.nd rfl (Or.inr rfl)) (pss_cons (ps_if (pt_not (pt_truth (pe_lam2 (k := 5) gq__law_refused Fq__law_refused.kp Fq__law_refused sc__law_refused rfl (.inl rfl) rfl Bq__law_refused (fun cdg => ask__law_refused T cdg) (LB.tb "_law_refusals" (by decide) _ _ ht) (hci _ _ ht glo) hgd (hr.mono (by decide)) (LamX.lamS_by (sc := d__law_refusals.scope) (by decide +kernel)) rfl (fun _ _ _ _ _ => rfl) pe_str (fun A outer s H E f c hgd hr => (pe_cal (E := fun _ => E) c_pieces_of hgd hr (by decide) (passEN takes_lamN) (pa_cons (pv 4) (pa_cons pe_non pa_nil))))) fun _ => rfl)) (pss_one (ps_ret pe_bl)) pss_nil)
  (pss_one (ps_if (pt_not (pt_truth (pe_lam2 (k := 5) gq__law_refused Fq__law_refused.kp Fq__law_refused sc__law_refused rfl (.inl rfl) rfl Bq__law_refused (fun cdg => ask__law_refused T cdg) (LB.tb "_law_refusals" (by decide) _ _ ht) (hci _ _ ht glo) hgd (hr.mono (by decide)) (LamX.lamS_by (sc := d__law_refusals.scope) (by decide +kernel)) rfl (fun _ _ _ _ _ => rfl) pe_str (fun A outer s H E f c hgd hr => (pe_cal (E := fun _ => E) c_pieces_of hgd hr (by decide) (passEN takes_lamN) (pa_cons (pv 4) (pa_cons (pe_tup (pa_cons pe_int pa_nil)) pa_nil))))) fun _ => rfl)) (pss_one (ps_ret pe_bl)) pss_nil))))
  (pss_cons (ps_for (passes_of rfl) rfl (pi_seq (pe_tup (pa_cons pe_non (pa_cons (pe_lst (pa_cons pe_int pa_nil)) (pa_cons (pe_tup (pa_cons pe_bl pa_nil)) (pa_cons (pe_tup (pa_cons pe_int (pa_cons pe_int pa_nil))) (pa_cons pe_str (pa_cons pe_int (pa_cons (pe_tup (pa_cons pe_int (pa_cons pe_non pa_nil))) (pa_cons (pe_tup (pa_cons (pe_un un_neg pe_int) pa_nil)) (pa_cons (pe_tup (pa_cons (pe_tup (pa_cons pe_int pa_nil)) pa_nil)) pa_nil))))))))))) (pg_name (i := 4) sc__law_refusals.nd rfl (Or.inr rfl)) (pss_cons (ps_if (pt_not (pt_truth (pe_lam2 (k := 5) gq__law_refused Fq__law_refused.kp Fq__law_refused sc__law_refused rfl (.inl rfl) rfl Bq__law_refused (fun cdg => ask__law_refused T cdg) (LB.tb "_law_refusals" (by decide) _ _ ht) (hci _ _ ht glo) hgd (hr.mono (by decide)) (LamX.lamS_by (sc := d__law_refusals.scope) (by decide +kernel)) rfl (fun _ _ _ _ _ => rfl) pe_str (fun A outer s H E f c hgd hr => (pe_cal (E := fun _ => E) c_pieces_of hgd hr (by decide) (passEN takes_lamN) (pa_cons pe_int (pa_cons (pv 4) pa_nil))))) fun _ => rfl)) (pss_one (ps_ret pe_bl)) pss_nil)
  (pss_one (ps_if (pt_not (pt_truth (pe_lam2 (k := 5) gq__law_refused Fq__law_refused.kp Fq__law_refused sc__law_refused rfl (.inl rfl) rfl Bq__law_refused (fun cdg => ask__law_refused T cdg) (LB.tb "_law_refusals" (by decide) _ _ ht) (hci _ _ ht glo) hgd (hr.mono (by decide)) (LamX.lamS_by (sc := d__law_refusals.scope) (by decide +kernel)) rfl (fun _ _ _ _ _ => rfl) pe_str (fun A outer s H E f c hgd hr => (pe_cal (E := fun _ => E) c_bit_of hgd hr (by decide) (passEN takes_lamN) (pa_cons (pv 4) pa_nil)))) fun _ => rfl)) (pss_one (ps_ret pe_bl)) pss_nil))))
  (pss_cons (ps_for (passes_of rfl) rfl (pi_seq (pe_tup (pa_cons pe_int (pa_cons (pe_un un_neg pe_int) (pa_cons pe_bl (pa_cons pe_non (pa_cons pe_str (pa_cons (pe_tup (pa_cons pe_int pa_nil)) (pa_cons (pe_lst (pa_cons pe_int pa_nil)) pa_nil))))))))) (pg_name (i := 4) sc__law_refusals.nd rfl (Or.inr rfl)) (pss_cons (ps_if (pt_not (pt_truth (pe_lam2 (k := 7) gq__law_refused Fq__law_refused.kp Fq__law_refused sc__law_refused rfl (.inl rfl) rfl Bq__law_refused (fun cdg => ask__law_refused T cdg) (LB.tb "_law_refusals" (by decide) _ _ ht) (hci _ _ ht glo) hgd (hr.mono (by decide)) (LamX.lamS_by (sc := d__law_refusals.scope) (by decide +kernel)) rfl (fun _ _ _ _ _ => rfl) pe_str (fun A outer s H E f c hgd hr => (pe_cal (E := fun _ => E) c_gets_of hgd hr (by decide) (passEN takes_lamN) (pa_cons (pv 4) (pa_cons pe_non (pa_cons pe_int (pa_cons (pe_tup pa_nil) pa_nil))))))) fun _ => rfl)) (pss_one (ps_ret pe_bl)) pss_nil)
  (pss_cons (ps_if (pt_not (pt_truth (pe_lam2 (k := 6) gq__law_refused Fq__law_refused.kp Fq__law_refused sc__law_refused rfl (.inl rfl) rfl Bq__law_refused (fun cdg => ask__law_refused T cdg) (LB.tb "_law_refusals" (by decide) _ _ ht) (hci _ _ ht glo) hgd (hr.mono (by decide)) (LamX.lamS_by (sc := d__law_refusals.scope) (by decide +kernel)) rfl (fun _ _ _ _ _ => rfl) pe_str (fun A outer s H E f c hgd hr => (pe_cal (E := fun _ => E) c_helper_of hgd hr (by decide) (passEN takes_lamN) (pa_cons (pv 4) (pa_cons (pe_tup pa_nil) (pa_cons (pe_tup pa_nil) pa_nil)))))) fun _ => rfl)) (pss_one (ps_ret pe_bl)) pss_nil)
  (pss_cons (ps_if (pt_not (pt_truth (pe_lam2 (k := 7) gq__law_refused Fq__law_refused.kp Fq__law_refused sc__law_refused rfl (.inl rfl) rfl Bq__law_refused (fun cdg => ask__law_refused T cdg) (LB.tb "_law_refusals" (by decide) _ _ ht) (hci _ _ ht glo) hgd (hr.mono (by decide)) (LamX.lamS_by (sc := d__law_refusals.scope) (by decide +kernel)) rfl (fun _ _ _ _ _ => rfl) pe_str (fun A outer s H E f c hgd hr => (pe_cal (E := fun _ => E) c_dealt_pairs hgd hr (by decide) (passEN takes_lamN) (pa_cons (pv 4) (pa_cons pe_int pa_nil))))) fun _ => rfl)) (pss_one (ps_ret pe_bl)) pss_nil)
  (pss_one (ps_if (pt_not (pt_truth (pe_lam2 (k := 8) gq__law_refused Fq__law_refused.kp Fq__law_refused sc__law_refused rfl (.inl rfl) rfl Bq__law_refused (fun cdg => ask__law_refused T cdg) (LB.tb "_law_refusals" (by decide) _ _ ht) (hci _ _ ht glo) hgd (hr.mono (by decide)) (LamX.lamS_by (sc := d__law_refusals.scope) (by decide +kernel)) rfl (fun _ _ _ _ _ => rfl) pe_str (fun A outer s H E f c hgd hr => (pe_cal (E := fun _ => E) c_product_sums hgd hr (by decide) (passEN takes_lamN) (pa_cons (pv 4) (pa_cons (pv 2) (pa_cons (pv 3) (pa_cons (pv 3) pa_nil))))))) fun _ => rfl)) (pss_one (ps_ret pe_bl)) pss_nil))))))
  (pss_cons (ps_for (passes_of rfl) rfl (pi_seq (pe_cal c__law_odd_lots hgd hr (by decide) (passEN (L2N.takes_of rfl rfl rfl rfl)) (pa_cons (pv 1) pa_nil))) (pg_name (i := 4) sc__law_refusals.nd rfl (Or.inr rfl)) (pss_cons (ps_if (pt_not (pt_truth (pe_lam2 (k := 7) gq__law_refused Fq__law_refused.kp Fq__law_refused sc__law_refused rfl (.inl rfl) rfl Bq__law_refused (fun cdg => ask__law_refused T cdg) (LB.tb "_law_refusals" (by decide) _ _ ht) (hci _ _ ht glo) hgd (hr.mono (by decide)) (LamX.lamS_by (sc := d__law_refusals.scope) (by decide +kernel)) rfl (fun _ _ _ _ _ => rfl) pe_str (fun A outer s H E f c hgd hr => (pe_cal (E := fun _ => E) c_gets_of hgd hr (by decide) (passEN takes_lamN) (pa_cons (pv 1) (pa_cons (pv 4) (pa_cons (pv 1) (pa_cons pe_non pa_nil))))))) fun _ => rfl)) (pss_one (ps_ret pe_bl)) pss_nil)
  (pss_cons (ps_if (pt_not (pt_truth (pe_lam2 (k := 7) gq__law_refused Fq__law_refused.kp Fq__law_refused sc__law_refused rfl (.inl rfl) rfl Bq__law_refused (fun cdg => ask__law_refused T cdg) (LB.tb "_law_refusals" (by decide) _ _ ht) (hci _ _ ht glo) hgd (hr.mono (by decide)) (LamX.lamS_by (sc := d__law_refusals.scope) (by decide +kernel)) rfl (fun _ _ _ _ _ => rfl) pe_str (fun A outer s H E f c hgd hr => (pe_cal (E := fun _ => E) c_dealt_pairs hgd hr (by decide) (passEN takes_lamN) (pa_cons (pv 1) (pa_cons (pv 4) pa_nil))))) fun _ => rfl)) (pss_one (ps_ret pe_bl)) pss_nil)
  (pss_one (ps_if (pt_not (pt_truth (pe_lam2 (k := 8) gq__law_refused Fq__law_refused.kp Fq__law_refused sc__law_refused rfl (.inl rfl) rfl Bq__law_refused (fun cdg => ask__law_refused T cdg) (LB.tb "_law_refusals" (by decide) _ _ ht) (hci _ _ ht glo) hgd (hr.mono (by decide)) (LamX.lamS_by (sc := d__law_refusals.scope) (by decide +kernel)) rfl (fun _ _ _ _ _ => rfl) pe_str (fun A outer s H E f c hgd hr => (pe_cal (E := fun _ => E) c_product_sums hgd hr (by decide) (passEN takes_lamN) (pa_cons (pv 1) (pa_cons (pv 4) (pa_cons pe_non (pa_cons (pv 3) pa_nil))))))) fun _ => rfl)) (pss_one (ps_ret pe_bl)) pss_nil)))))
  (pss_one (ps_ret (pe_cal c__law_later_refusals hgd hr (by decide) (passEN (L2N.takes_of rfl rfl rfl rfl)) (pa_cons (pv 0) (pa_cons (pv 1) (pa_cons (pv 2) (pa_cons (pv 3) pa_nil)))))))))))),
  (ss_seq (ss_asg (se_2 o_mulT (se_tup (sa_cons se_int sa_nil)) (se_n o_len (sa_cons se_var sa_nil))) sg_name)
  (ss_seq (ss_for (si_seq (se_tup (sa_cons se_int (sa_cons (se_1 o_neg se_int) (sa_cons se_bl (sa_cons se_bl (sa_cons se_non (sa_cons se_str (sa_cons (se_tup (sa_cons se_int sa_nil)) (sa_cons (se_l (sl_lst (sa_cons se_int sa_nil))) sa_nil)))))))))) sg_name (ss_seq (ss_if (st_not (st_tru (se_ask (tb_mem (x := "_law_refusals") (by decide) ht) LB.nd (sa_cons se_str sa_nil) (fun E => (se_callD (sa_cons se_var (sa_cons se_non sa_nil))))))) (ss_ret se_bl) ss_next)
  (ss_if (st_not (st_tru (se_ask (tb_mem (x := "_law_refusals") (by decide) ht) LB.nd (sa_cons se_str sa_nil) (fun E => (se_callD (sa_cons se_var (sa_cons (se_tup (sa_cons se_int sa_nil)) sa_nil))))))) (ss_ret se_bl) ss_next)))
  (ss_seq (ss_for (si_seq (se_tup (sa_cons se_non (sa_cons (se_l (sl_lst (sa_cons se_int sa_nil))) (sa_cons (se_tup (sa_cons se_bl sa_nil)) (sa_cons (se_tup (sa_cons se_int (sa_cons se_int sa_nil))) (sa_cons se_str (sa_cons se_int (sa_cons (se_tup (sa_cons se_int (sa_cons se_non sa_nil))) (sa_cons (se_tup (sa_cons (se_1 o_neg se_int) sa_nil)) (sa_cons (se_tup (sa_cons (se_tup (sa_cons se_int sa_nil)) sa_nil)) sa_nil))))))))))) sg_name (ss_seq (ss_if (st_not (st_tru (se_ask (tb_mem (x := "_law_refusals") (by decide) ht) LB.nd (sa_cons se_str sa_nil) (fun E => (se_callD (sa_cons se_int (sa_cons se_var sa_nil))))))) (ss_ret se_bl) ss_next)
  (ss_if (st_not (st_tru (se_ask (tb_mem (x := "_law_refusals") (by decide) ht) LB.nd (sa_cons se_str sa_nil) (fun E => (se_callD (sa_cons se_var sa_nil)))))) (ss_ret se_bl) ss_next)))
  (ss_seq (ss_for (si_seq (se_tup (sa_cons se_int (sa_cons (se_1 o_neg se_int) (sa_cons se_bl (sa_cons se_non (sa_cons se_str (sa_cons (se_tup (sa_cons se_int sa_nil)) (sa_cons (se_l (sl_lst (sa_cons se_int sa_nil))) sa_nil))))))))) sg_name (ss_seq (ss_if (st_not (st_tru (se_ask (tb_mem (x := "_law_refusals") (by decide) ht) LB.nd (sa_cons se_str sa_nil) (fun E => (se_callD (sa_cons se_var (sa_cons se_non (sa_cons se_int (sa_cons (se_tup sa_nil) sa_nil))))))))) (ss_ret se_bl) ss_next)
  (ss_seq (ss_if (st_not (st_tru (se_ask (tb_mem (x := "_law_refusals") (by decide) ht) LB.nd (sa_cons se_str sa_nil) (fun E => (se_callD (sa_cons se_var (sa_cons (se_tup sa_nil) (sa_cons (se_tup sa_nil) sa_nil)))))))) (ss_ret se_bl) ss_next)
  (ss_seq (ss_if (st_not (st_tru (se_ask (tb_mem (x := "_law_refusals") (by decide) ht) LB.nd (sa_cons se_str sa_nil) (fun E => (se_callD (sa_cons se_var (sa_cons se_int sa_nil))))))) (ss_ret se_bl) ss_next)
  (ss_if (st_not (st_tru (se_ask (tb_mem (x := "_law_refusals") (by decide) ht) LB.nd (sa_cons se_str sa_nil) (fun E => (se_callD (sa_cons se_var (sa_cons se_var (sa_cons se_var (sa_cons se_var sa_nil))))))))) (ss_ret se_bl) ss_next)))))
  (ss_seq (ss_for (si_seq (se_callD (sa_cons se_var sa_nil))) sg_name (ss_seq (ss_if (st_not (st_tru (se_ask (tb_mem (x := "_law_refusals") (by decide) ht) LB.nd (sa_cons se_str sa_nil) (fun E => (se_callD (sa_cons se_var (sa_cons se_var (sa_cons se_var (sa_cons se_non sa_nil))))))))) (ss_ret se_bl) ss_next)
  (ss_seq (ss_if (st_not (st_tru (se_ask (tb_mem (x := "_law_refusals") (by decide) ht) LB.nd (sa_cons se_str sa_nil) (fun E => (se_callD (sa_cons se_var (sa_cons se_var sa_nil))))))) (ss_ret se_bl) ss_next)
  (ss_if (st_not (st_tru (se_ask (tb_mem (x := "_law_refusals") (by decide) ht) LB.nd (sa_cons se_str sa_nil) (fun E => (se_callD (sa_cons se_var (sa_cons se_var (sa_cons se_non (sa_cons se_var sa_nil))))))))) (ss_ret se_bl) ss_next))))
  (ss_ret (se_callM (sa_cons se_var (sa_cons se_var (sa_cons se_var sa_nil))))))))))⟩
theorem cal__law_by_hand (T : TX K mg) : CalG P w K mg base 9 d__law_by_hand [] (spP K mg M__law_by_hand) := by
  have c__law_same : CalG P w K mg base 6 d__law_same [("_law_told" : Str), ("_law_due" : Str)] (spP K mg M__law_same) := cal__law_same T
  have c_product_sums : CalG P w K mg base 8 d_product_sums [("many" : Str), ("lots" : Str), ("one" : Str), ("other" : Str)] (spP K mg M_product_sums) := cal_product_sums T
  have c_helper_of : CalG P w K mg base 6 d_helper_of [("many" : Str), ("one" : Str), ("other" : Str)] (spP K mg M_helper_of) := cal_helper_of T
  have c_dealt_pairs : CalG P w K mg base 7 d_dealt_pairs [("many" : Str), ("lots" : Str)] (spP K mg M_dealt_pairs) := cal_dealt_pairs T
  have c_pieces_of : CalG P w K mg base 5 d_pieces_of [("bit" : Str), ("throws" : Str)] (spP K mg M_pieces_of) := cal_pieces_of T
  have c_bit_of : CalG P w K mg base 5 d_bit_of [("pieces" : Str)] (spP K mg M_bit_of) := cal_bit_of T
  obtain ⟨fd, F0⟩ := T.says.def_ (d := d__law_by_hand) (mem_at 31 rfl)
  have F : FunD K d__law_by_hand.name d__law_by_hand.qual d__law_by_hand.params d__law_by_hand.body d__law_by_hand.scope [] [] (He.fAd K d__law_by_hand.at_) fd := F0
  have B : Binds K fd [] [] := F.bindsN fun _ _ _ _ _ _ us hl => match us, hl with | [], _ => rfl
  have glo : mg d__law_by_hand.name = some (.ref (He.fAd K d__law_by_hand.at_)) := T.glo "_law_by_hand" (mem_at 31 rfl)
  refine ⟨⟨fd, F, ?_, B⟩, glo⟩
  show FnG P w K mg base _ _ _ _ _ (spP K mg (fnM 0 0 m__law_by_hand))
  refine fnP_ok (N := N__law_by_hand) (m := m__law_by_hand) F sc__law_by_hand (by decide) ?_
  intro cdv A outer s H E hgd hr
  exact ⟨_, (pss_cons (ps_if (PW.pt (pw_or (pt_not (pt_truth (pe_cal c__law_same hgd hr (by decide) (passEN (L2N.takes_of rfl rfl rfl rfl)) (pa_cons (pe_cal c_pieces_of hgd hr (by decide) (passEN (L2N.takes_of rfl rfl rfl rfl)) (pa_cons pe_int (pa_cons (pe_tup pa_nil) pa_nil))) (pa_cons (pe_tup (pa_cons pe_int pa_nil)) pa_nil))) fun _ => rfl)) (pw_or1 (pt_not (pt_truth (pe_cal c__law_same hgd hr (by decide) (passEN (L2N.takes_of rfl rfl rfl rfl)) (pa_cons (pe_cal0 (ks := [("throws" : Str), ("bit" : Str)]) (perm := [1, 0]) c_pieces_of hgd hr (by decide) (passEN (L2N.takes_of rfl rfl rfl rfl)) (fun _ _ _ _ _ _ us ws h1 h2 => match us, ws, h1, h2 with | [], [_, _], _, _ => rfl) (pk_cons (pe_tup (pa_cons pe_int (pa_cons pe_int (pa_cons pe_int pa_nil)))) (pk_cons pe_int pk_nil))) (pa_cons (pe_tup (pa_cons pe_int (pa_cons pe_int (pa_cons pe_int (pa_cons pe_int pa_nil))))) pa_nil))) fun _ => rfl))))) (pss_one (ps_ret pe_bl)) pss_nil)
  (pss_cons (ps_if (PW.pt (pw_or (pt_not (pt_truth (pe_cal c__law_same hgd hr (by decide) (passEN (L2N.takes_of rfl rfl rfl rfl)) (pa_cons (pe_cal c_bit_of hgd hr (by decide) (passEN (L2N.takes_of rfl rfl rfl rfl)) (pa_cons (pe_tup pa_nil) pa_nil)) (pa_cons pe_int pa_nil))) fun _ => rfl)) (pw_or1 (pt_not (pt_truth (pe_cal c__law_same hgd hr (by decide) (passEN (L2N.takes_of rfl rfl rfl rfl)) (pa_cons (pe_cal0 (ks := [("pieces" : Str)]) (perm := [0]) c_bit_of hgd hr (by decide) (passEN (L2N.takes_of rfl rfl rfl rfl)) (fun _ _ _ _ _ _ us ws h1 h2 => match us, ws, h1, h2 with | [], [_], _, _ => rfl) (pk_cons (pe_tup (pa_cons pe_int (pa_cons pe_int (pa_cons pe_int (pa_cons pe_int pa_nil))))) pk_nil)) (pa_cons pe_int pa_nil))) fun _ => rfl))))) (pss_one (ps_ret pe_bl)) pss_nil)
  (pss_cons (ps_if (PW.pt (pw_or (pt_not (pt_truth (pe_cal c__law_same hgd hr (by decide) (passEN (L2N.takes_of rfl rfl rfl rfl)) (pa_cons (pe_cal c_helper_of hgd hr (by decide) (passEN (L2N.takes_of rfl rfl rfl rfl)) (pa_cons pe_int (pa_cons (pe_tup pa_nil) (pa_cons (pe_tup pa_nil) pa_nil)))) (pa_cons pe_int pa_nil))) fun _ => rfl)) (pw_or1 (pt_cmpR op_isNotG (pe_cal c_helper_of hgd hr (by decide) (passEN (L2N.takes_of rfl rfl rfl rfl)) (pa_cons pe_int (pa_cons (pe_tup (pa_cons pe_int pa_nil)) (pa_cons (pe_tup pa_nil) pa_nil)))) pe_non (nomark _))))) (pss_one (ps_ret pe_bl)) pss_nil)
  (pss_cons (ps_if (pt_not (pt_truth (pe_cal c__law_same hgd hr (by decide) (passEN (L2N.takes_of rfl rfl rfl rfl)) (pa_cons (pe_cal0 (ks := [("other" : Str), ("one" : Str), ("many" : Str)]) (perm := [2, 1, 0]) c_helper_of hgd hr (by decide) (passEN (L2N.takes_of rfl rfl rfl rfl)) (fun _ _ _ _ _ _ us ws h1 h2 => match us, ws, h1, h2 with | [], [_, _, _], _, _ => rfl) (pk_cons (pe_tup (pa_cons pe_int (pa_cons pe_int pa_nil))) (pk_cons (pe_tup (pa_cons pe_int (pa_cons pe_int pa_nil))) (pk_cons pe_int pk_nil)))) (pa_cons pe_int pa_nil))) fun _ => rfl)) (pss_one (ps_ret pe_bl)) pss_nil)
  (pss_cons (ps_if (PW.pt (pw_or (pt_not (pt_truth (pe_cal c__law_same hgd hr (by decide) (passEN (L2N.takes_of rfl rfl rfl rfl)) (pa_cons (pe_cal c_dealt_pairs hgd hr (by decide) (passEN (L2N.takes_of rfl rfl rfl rfl)) (pa_cons pe_int (pa_cons (pe_tup (pa_cons (pe_tup pa_nil) pa_nil)) pa_nil))) (pa_cons (pe_tup (pa_cons (pe_tup (pa_cons (pe_tup (pa_cons pe_int (pa_cons pe_int pa_nil))) pa_nil)) pa_nil)) pa_nil))) fun _ => rfl)) (pw_or1 (pt_not (pt_truth (pe_cal c__law_same hgd hr (by decide) (passEN (L2N.takes_of rfl rfl rfl rfl)) (pa_cons (pe_cal c_product_sums hgd hr (by decide) (passEN (L2N.takes_of rfl rfl rfl rfl)) (pa_cons pe_int (pa_cons (pe_tup (pa_cons (pe_tup pa_nil) pa_nil)) (pa_cons (pe_tup (pa_cons pe_int pa_nil)) (pa_cons (pe_tup (pa_cons pe_int pa_nil)) pa_nil))))) (pa_cons (pe_tup (pa_cons pe_int pa_nil)) pa_nil))) fun _ => rfl))))) (pss_one (ps_ret pe_bl)) pss_nil)
  (pss_cons (ps_if (pt_not (pt_truth (pe_cal c__law_same hgd hr (by decide) (passEN (L2N.takes_of rfl rfl rfl rfl)) (pa_cons (pe_cal0 (ks := [("lots" : Str), ("many" : Str)]) (perm := [1, 0]) c_dealt_pairs hgd hr (by decide) (passEN (L2N.takes_of rfl rfl rfl rfl)) (fun _ _ _ _ _ _ us ws h1 h2 => match us, ws, h1, h2 with | [], [_, _], _, _ => rfl) (pk_cons (pe_tup (pa_cons (pe_tup pa_nil) (pa_cons (pe_tup (pa_cons pe_int pa_nil)) pa_nil))) (pk_cons pe_int pk_nil))) (pa_cons (pe_tup (pa_cons (pe_tup (pa_cons (pe_tup (pa_cons pe_int (pa_cons pe_int pa_nil))) pa_nil)) (pa_cons (pe_tup (pa_cons (pe_tup (pa_cons pe_int (pa_cons pe_int pa_nil))) (pa_cons (pe_tup (pa_cons pe_int (pa_cons pe_int pa_nil))) (pa_cons (pe_tup (pa_cons pe_int (pa_cons pe_int pa_nil))) pa_nil)))) pa_nil))) pa_nil))) fun _ => rfl)) (pss_one (ps_ret pe_bl)) pss_nil)
  (pss_one (ps_ret (pe_cal c__law_same hgd hr (by decide) (passEN (L2N.takes_of rfl rfl rfl rfl)) (pa_cons (pe_cal0 (ks := [("other" : Str), ("one" : Str), ("lots" : Str), ("many" : Str)]) (perm := [3, 2, 1, 0]) c_product_sums hgd hr (by decide) (passEN (L2N.takes_of rfl rfl rfl rfl)) (fun _ _ _ _ _ _ us ws h1 h2 => match us, ws, h1, h2 with | [], [_, _, _, _], _, _ => rfl) (pk_cons (pe_tup (pa_cons pe_int (pa_cons pe_int pa_nil))) (pk_cons (pe_tup (pa_cons pe_int (pa_cons pe_int pa_nil))) (pk_cons (pe_tup (pa_cons (pe_tup pa_nil) (pa_cons (pe_tup (pa_cons pe_int pa_nil)) pa_nil))) (pk_cons pe_int pk_nil))))) (pa_cons (pe_tup (pa_cons pe_int (pa_cons pe_int pa_nil))) pa_nil))))))))))),
  (ss_seq (ss_if (st_or (st_not (st_tru (se_callD (sa_cons (se_callD (sa_cons se_int (sa_cons (se_tup sa_nil) sa_nil))) (sa_cons (se_tup (sa_cons se_int sa_nil)) sa_nil))))) (st_not (st_tru (se_callD (sa_cons (se_callK sa_nil (sa_cons (se_tup (sa_cons se_int (sa_cons se_int (sa_cons se_int sa_nil)))) (sa_cons se_int sa_nil))) (sa_cons (se_tup (sa_cons se_int (sa_cons se_int (sa_cons se_int (sa_cons se_int sa_nil))))) sa_nil)))))) (ss_ret se_bl) ss_next)
  (ss_seq (ss_if (st_or (st_not (st_tru (se_callD (sa_cons (se_callD (sa_cons (se_tup sa_nil) sa_nil)) (sa_cons se_int sa_nil))))) (st_not (st_tru (se_callD (sa_cons (se_callK sa_nil (sa_cons (se_tup (sa_cons se_int (sa_cons se_int (sa_cons se_int (sa_cons se_int sa_nil))))) sa_nil)) (sa_cons se_int sa_nil)))))) (ss_ret se_bl) ss_next)
  (ss_seq (ss_if (st_or (st_not (st_tru (se_callD (sa_cons (se_callD (sa_cons se_int (sa_cons (se_tup sa_nil) (sa_cons (se_tup sa_nil) sa_nil)))) (sa_cons se_int sa_nil))))) (st_test (se_2 o_isNot (se_callD (sa_cons se_int (sa_cons (se_tup (sa_cons se_int sa_nil)) (sa_cons (se_tup sa_nil) sa_nil)))) se_non))) (ss_ret se_bl) ss_next)
  (ss_seq (ss_if (st_not (st_tru (se_callD (sa_cons (se_callK sa_nil (sa_cons (se_tup (sa_cons se_int (sa_cons se_int sa_nil))) (sa_cons (se_tup (sa_cons se_int (sa_cons se_int sa_nil))) (sa_cons se_int sa_nil)))) (sa_cons se_int sa_nil))))) (ss_ret se_bl) ss_next)
  (ss_seq (ss_if (st_or (st_not (st_tru (se_callD (sa_cons (se_callD (sa_cons se_int (sa_cons (se_tup (sa_cons (se_tup sa_nil) sa_nil)) sa_nil))) (sa_cons (se_tup (sa_cons (se_tup (sa_cons (se_tup (sa_cons se_int (sa_cons se_int sa_nil))) sa_nil)) sa_nil)) sa_nil))))) (st_not (st_tru (se_callD (sa_cons (se_callD (sa_cons se_int (sa_cons (se_tup (sa_cons (se_tup sa_nil) sa_nil)) (sa_cons (se_tup (sa_cons se_int sa_nil)) (sa_cons (se_tup (sa_cons se_int sa_nil)) sa_nil))))) (sa_cons (se_tup (sa_cons se_int sa_nil)) sa_nil)))))) (ss_ret se_bl) ss_next)
  (ss_seq (ss_if (st_not (st_tru (se_callD (sa_cons (se_callK sa_nil (sa_cons (se_tup (sa_cons (se_tup sa_nil) (sa_cons (se_tup (sa_cons se_int sa_nil)) sa_nil))) (sa_cons se_int sa_nil))) (sa_cons (se_tup (sa_cons (se_tup (sa_cons (se_tup (sa_cons se_int (sa_cons se_int sa_nil))) sa_nil)) (sa_cons (se_tup (sa_cons (se_tup (sa_cons se_int (sa_cons se_int sa_nil))) (sa_cons (se_tup (sa_cons se_int (sa_cons se_int sa_nil))) (sa_cons (se_tup (sa_cons se_int (sa_cons se_int sa_nil))) sa_nil)))) sa_nil))) sa_nil))))) (ss_ret se_bl) ss_next)
  (ss_ret (se_callD (sa_cons (se_callK sa_nil (sa_cons (se_tup (sa_cons se_int (sa_cons se_int sa_nil))) (sa_cons (se_tup (sa_cons se_int (sa_cons se_int sa_nil))) (sa_cons (se_tup (sa_cons (se_tup sa_nil) (sa_cons (se_tup (sa_cons se_int sa_nil)) sa_nil))) (sa_cons se_int sa_nil))))) (sa_cons (se_tup (sa_cons se_int (sa_cons se_int sa_nil))) sa_nil))))))))))⟩
theorem cal__law_bits (T : TX K mg) : CalG P w K mg base 2 d__law_bits [("_law_state" : Str), ("_law_many" : Str)] (spD K mg M__law_bits) := by
  have c__law_draw : CalG P w K mg base 1 d__law_draw [("_law_state" : Str), ("_law_many" : Str)] (spD K mg M__law_draw) := cal__law_draw T
  have f_range : mg "range" = none := T.free "range" (mem_at 49 rfl)
  have f_tuple : mg "tuple" = none := T.free "tuple" (mem_at 51 rfl)
  obtain ⟨fd, F0⟩ := T.says.def_ (d := d__law_bits) (mem_at 32 rfl)
  have F : FunD K d__law_bits.name d__law_bits.qual d__law_bits.params d__law_bits.body d__law_bits.scope [] [] (He.fAd K d__law_bits.at_) fd := F0
  have B : Binds K fd [("_law_state" : Str), ("_law_many" : Str)] [] := F.bindsN fun _ _ _ _ _ _ us hl => match us, hl with | [_, _], _ => rfl
  have glo : mg d__law_bits.name = some (.ref (He.fAd K d__law_bits.at_)) := T.glo "_law_bits" (mem_at 32 rfl)
  refine ⟨⟨fd, F, ?_, B⟩, glo⟩
  refine fnD_ok F sc__law_bits (by decide) ?_
  intro cdv A outer s H E hgd hr
  exact ⟨_, (pss_one (ps_ret (pe_callTy call_tuple_of (by rfl) (by exact f_tuple) (by decide +kernel) (pa_cons (pe_lc (own := [(("_law_turn" : Str), 2)]) (g := gName 2) rfl sc__law_bits.nd (pi_range1 (by rfl) (by exact f_range) (pa_cons (pv 1) pa_nil)) (blkOk_by (own := [(("_law_turn" : Str), 2)]) (N := N__law_bits) (sc := d__law_bits.scope) (by decide +kernel)) (fun _ _ _ _ _ => pg_name (i := 2) sc__law_bits.nd rfl (by first | exact Or.inl rfl | exact Or.inr rfl)) (fun _ _ _ _ _ => pts_nil) (fun _ _ _ _ _ => (pe_cal c__law_draw hgd hr (by decide) passF (pa_cons (pv 0) (pa_cons pe_int pa_nil))))) pa_nil)))),
  (ss_ret (se_n o_tuple (sa_cons (se_l (sl_lc (si_rng1 (sa_cons se_var sa_nil)) (by decide) sg_name st_yes (se_callM (sa_cons se_int sa_nil)))) sa_nil)))⟩
theorem cal__law_pieces (T : TX K mg) : CalG P w K mg base 7 d__law_pieces [("_law_state" : Str), ("_law_bit" : Str)] (spD K mg M__law_pieces) := by
  have c__law_bits : CalG P w K mg base 2 d__law_bits [("_law_state" : Str), ("_law_many" : Str)] (spD K mg M__law_bits) := cal__law_bits T
  have c__law_same : CalG P w K mg base 6 d__law_same [("_law_told" : Str), ("_law_due" : Str)] (spP K mg M__law_same) := cal__law_same T
  have c__law_draw : CalG P w K mg base 1 d__law_draw [("_law_state" : Str), ("_law_many" : Str)] (spD K mg M__law_draw) := cal__law_draw T
  have c_bit_of : CalG P w K mg base 5 d_bit_of [("pieces" : Str)] (spP K mg M_bit_of) := cal_bit_of T
  have c_pieces_of : CalG P w K mg base 5 d_pieces_of [("bit" : Str), ("throws" : Str)] (spP K mg M_pieces_of) := cal_pieces_of T
  have f_int : mg "int" = none := T.free "int" (mem_at 45 rfl)
  have f_range : mg "range" = none := T.free "range" (mem_at 49 rfl)
  have f_sum : mg "sum" = none := T.free "sum" (mem_at 50 rfl)
  obtain ⟨fd, F0⟩ := T.says.def_ (d := d__law_pieces) (mem_at 33 rfl)
  have F : FunD K d__law_pieces.name d__law_pieces.qual d__law_pieces.params d__law_pieces.body d__law_pieces.scope [] [] (He.fAd K d__law_pieces.at_) fd := F0
  have B : Binds K fd [("_law_state" : Str), ("_law_bit" : Str)] [] := F.bindsN fun _ _ _ _ _ _ us hl => match us, hl with | [_, _], _ => rfl
  have glo : mg d__law_pieces.name = some (.ref (He.fAd K d__law_pieces.at_)) := T.glo "_law_pieces" (mem_at 33 rfl)
  refine ⟨⟨fd, F, ?_, B⟩, glo⟩
  refine fnD_ok F sc__law_pieces (by decide) ?_
  intro cdv A outer s H E hgd hr
  exact ⟨_, (pss_cons (ps_set (i := 2) sc__law_pieces.nd rfl (Or.inl rfl) pe_int)
  (pss_cons (ps_if (pt_cmpR (op_eqG (room65 hr)) (pe_cal c__law_draw hgd hr (by decide) (passEN (L2N.takes_of rfl rfl rfl rfl)) (pa_cons (pv 0) (pa_cons pe_int pa_nil))) pe_int (nomark _)) (pss_one (ps_set (i := 2) sc__law_pieces.nd rfl (Or.inl rfl) pe_int)) pss_nil)
  (pss_cons (ps_set (i := 3) sc__law_pieces.nd rfl (Or.inl rfl) (pe_cal c__law_bits hgd hr (by decide) (passEN (L2N.takes_of rfl rfl rfl rfl)) (pa_cons (pv 0) (pa_cons (pe_cal c__law_draw hgd hr (by decide) (passEN (L2N.takes_of rfl rfl rfl rfl)) (pa_cons (pv 0) (pa_cons (pe_op op_add3 (pv 2) pe_int) pa_nil))) pa_nil))))
  (pss_cons (ps_set (i := 4) sc__law_pieces.nd rfl (Or.inl rfl) (pe_op op_add3 (pv 3) (pe_tup (pa_cons (pe_op op_mod (pe_callTy call_int1 (by rfl) (by exact f_int) (by decide +kernel) (pa_cons (pe_op op_add3 (pv 1) (pe_callB (cr_sumT (by rfl)) (by rfl) (by exact f_sum) (by decide +kernel) (pa_cons (pv 3) pa_nil))) pa_nil)) pe_int) pa_nil))))
  (pss_cons (ps_for (passes_of rfl) rfl (pi_range1 (by rfl) (by exact f_range) (pa_cons pe_int pa_nil)) (pg_name (i := 5) sc__law_pieces.nd rfl (Or.inl rfl)) (pss_one (ps_if (PW.pt (pw_or (pt_not (pt_truth (pe_cal c__law_same hgd hr (by decide) (passEN (L2N.takes_of rfl rfl rfl rfl)) (pa_cons (pe_cal c_pieces_of hgd hr (by decide) (passEN (L2N.takes_of rfl rfl rfl rfl)) (pa_cons (pv 1) (pa_cons (pv 3) pa_nil))) (pa_cons (pv 4) pa_nil))) fun _ => rfl)) (pw_or1 (pt_not (pt_truth (pe_cal c__law_same hgd hr (by decide) (passEN (L2N.takes_of rfl rfl rfl rfl)) (pa_cons (pe_cal c_bit_of hgd hr (by decide) (passEN (L2N.takes_of rfl rfl rfl rfl)) (pa_cons (pv 4) pa_nil)) (pa_cons (pv 1) pa_nil))) fun _ => rfl))))) (pss_one (ps_ret pe_bl)) pss_nil)))
  (pss_one (ps_ret (pe_cal c__law_same hgd hr (by decide) (passEN (L2N.takes_of rfl rfl rfl rfl)) (pa_cons (pe_cal c_bit_of hgd hr (by decide) (passEN (L2N.takes_of rfl rfl rfl rfl)) (pa_cons (pv 3) pa_nil)) (pa_cons (pe_op op_mod (pe_callTy call_int1 (by rfl) (by exact f_int) (by decide +kernel) (pa_cons (pe_callB (cr_sumT (by rfl)) (by rfl) (by exact f_sum) (by decide +kernel) (pa_cons (pv 3) pa_nil)) pa_nil)) pe_int) pa_nil)))))))))),
  (ss_seq (ss_asg se_int sg_name)
  (ss_seq (ss_if (st_test (se_2 o_eq (se_callM (sa_cons se_int sa_nil)) se_int)) (ss_asg se_int sg_name) ss_next)
  (ss_seq (ss_asg (se_callM (sa_cons (se_callM (sa_cons (se_2 o_add se_var se_int) sa_nil)) sa_nil)) sg_name)
  (ss_seq (ss_asg (se_2 o_add se_var (se_tup (sa_cons (se_2 o_mod (se_n o_int (sa_cons (se_2 o_add se_var (se_n o_sumT (sa_cons se_var sa_nil))) sa_nil)) se_int) sa_nil))) sg_name)
  (ss_seq (ss_for (si_rng1 (sa_cons se_int sa_nil)) sg_name (ss_if (st_or (st_not (st_tru (se_callD (sa_cons (se_callD (sa_cons se_var (sa_cons se_var sa_nil))) (sa_cons se_var sa_nil))))) (st_not (st_tru (se_callD (sa_cons (se_callD (sa_cons se_var sa_nil)) (sa_cons se_var sa_nil)))))) (ss_ret se_bl) ss_next))
  (ss_ret (se_callD (sa_cons (se_callD (sa_cons se_var sa_nil)) (sa_cons (se_2 o_mod (se_n o_int (sa_cons (se_n o_sumT (sa_cons se_var sa_nil)) sa_nil)) se_int) sa_nil)))))))))⟩
theorem cal__law_helper (T : TX K mg) : CalG P w K mg base 1 d__law_helper [("_law_many" : Str), ("_law_one" : Str), ("_law_other" : Str)] (spP K mg M__law_helper) := by
  have f_range : mg "range" = none := T.free "range" (mem_at 49 rfl)
  obtain ⟨fd, F0⟩ := T.says.def_ (d := d__law_helper) (mem_at 34 rfl)
  have F : FunD K d__law_helper.name d__law_helper.qual d__law_helper.params d__law_helper.body d__law_helper.scope [] [] (He.fAd K d__law_helper.at_) fd := F0
  have B : Binds K fd [("_law_many" : Str), ("_law_one" : Str), ("_law_other" : Str)] [] := F.bindsN fun _ _ _ _ _ _ us hl => match us, hl with | [_, _, _], _ => rfl
  have glo : mg d__law_helper.name = some (.ref (He.fAd K d__law_helper.at_)) := T.glo "_law_helper" (mem_at 34 rfl)
  refine ⟨⟨fd, F, ?_, B⟩, glo⟩
  refine fnP_ok F sc__law_helper (by decide) ?_
  intro cdv A outer s H E hgd hr
  exact ⟨_, (pss_cons (ps_for (passes_of rfl) rfl (pi_range1 (by rfl) (by exact f_range) (pa_cons (pv 0) pa_nil)) (pg_name (i := 3) sc__law_helper.nd rfl (Or.inl rfl)) (pss_one (ps_if (PW.pt (pw_and (pt_cmpR (op_notInG (room65 hr)) (pv 3) (pv 1) (by with_unfolding_all rfl)) (pw_and1 (pt_cmpR (op_notInG (room65 hr)) (pv 3) (pv 2) (by with_unfolding_all rfl))))) (pss_one (ps_ret (pv 3))) pss_nil)))
  (pss_one (ps_ret pe_non))),
  (ss_seq (ss_for (si_rng1 (sa_cons se_var sa_nil)) sg_name (ss_if (st_and (st_test (se_2 o_notIn se_var se_var)) (st_test (se_2 o_notIn se_var se_var))) (ss_ret se_var) ss_next))
  (ss_ret se_non))⟩
theorem cal__law_dealt (T : TX K mg) : CalG P w K mg base 2 d__law_dealt [("_law_many" : Str), ("_law_lots_here" : Str)] (spP K mg M__law_dealt) := by
  have c__law_helper : CalG P w K mg base 1 d__law_helper [("_law_many" : Str), ("_law_one" : Str), ("_law_other" : Str)] (spP K mg M__law_helper) := cal__law_helper T
  have f_len : mg "len" = none := T.free "len" (mem_at 47 rfl)
  have f_range : mg "range" = none := T.free "range" (mem_at 49 rfl)
  have f_tuple : mg "tuple" = none := T.free "tuple" (mem_at 51 rfl)
  obtain ⟨fd, F0⟩ := T.says.def_ (d := d__law_dealt) (mem_at 35 rfl)
  have F : FunD K d__law_dealt.name d__law_dealt.qual d__law_dealt.params d__law_dealt.body d__law_dealt.scope [] [] (He.fAd K d__law_dealt.at_) fd := F0
  have B : Binds K fd [("_law_many" : Str), ("_law_lots_here" : Str)] [] := F.bindsN fun _ _ _ _ _ _ us hl => match us, hl with | [_, _], _ => rfl
  have glo : mg d__law_dealt.name = some (.ref (He.fAd K d__law_dealt.at_)) := T.glo "_law_dealt" (mem_at 35 rfl)
  refine ⟨⟨fd, F, ?_, B⟩, glo⟩
  refine fnP_ok F sc__law_dealt (by decide) ?_
  intro cdv A outer s H E hgd hr
  exact ⟨_, (pss_cons (ps_setLc (i := 2) (own := [(("_law_house" : Str), 5)]) (g := gName 5) rfl sc__law_dealt.nd rfl rfl (sw_true rfl rfl rfl (by decide +kernel)) (pi_range1 (by rfl) (by exact f_range) (pa_cons (pv 0) pa_nil)) (blkOk_by (own := [(("_law_house" : Str), 5)]) (N := N__law_dealt) (sc := d__law_dealt.scope) (by decide +kernel)) (fun _ _ _ _ _ => pg_name (i := 5) sc__law_dealt.nd rfl (by first | exact Or.inl rfl | exact Or.inr rfl)) (fun _ _ _ _ _ => pts_nil) (fun _ _ _ _ _ => (pe_lst pa_nil)))
  (pss_cons (ps_for (passes_of rfl) rfl (pi_range1 (by rfl) (by exact f_range) (pa_cons (pe_callB call_len_seq (by rfl) (by exact f_len) (by decide +kernel) (pa_cons (pv 1) pa_nil)) pa_nil)) (pg_name (i := 3) sc__law_dealt.nd rfl (Or.inl rfl)) (pss_one (ps_for (passes_of rfl) rfl (pi_range1 (by rfl) (by exact f_range) (pa_cons (pe_callB call_len_seq (by rfl) (by exact f_len) (by decide +kernel) (pa_cons (pv 1) pa_nil)) pa_nil)) (pg_name (i := 4) sc__law_dealt.nd rfl (Or.inl rfl)) (pss_cons (ps_set (i := 5) sc__law_dealt.nd rfl (Or.inl rfl) (pe_cal c__law_helper hgd hr (by decide) (passEN (L2N.takes_of rfl rfl rfl rfl)) (pa_cons (pv 0) (pa_cons (pe_ix ix_seq (pv 1) (pv 3) fun _ _ => rfl) (pa_cons (pe_ix ix_seq (pv 1) (pv 4) fun _ _ => rfl) pa_nil)))))
  (pss_cons (ps_if (pt_cmpR op_isG (pv 5) pe_non (nomark _)) (pss_one (ps_ret pe_non)) pss_nil)
  (pss_one (ps_expr (pe_bm PySem.F.plainAttrs_list PySem.F.slot_list_append PySem.F.type_list_append mt_append (pe_ix ix_seq (pv 2) (pv 5) fun _ _ => rfl) (pa_cons (pe_tup (pa_cons (pv 3) (pa_cons (pv 4) pa_nil))) pa_nil)))))))))
  (pss_one (ps_ret (pe_callTy call_tuple_of (by rfl) (by exact f_tuple) (by decide +kernel) (pa_cons (pe_lc (own := [(("_law_row" : Str), 6)]) (g := gName 6) rfl sc__law_dealt.nd (pi_seq (pv 2)) (blkOk_by (own := [(("_law_row" : Str), 6)]) (N := N__law_dealt) (sc := d__law_dealt.scope) (by decide +kernel)) (fun _ _ _ _ _ => pg_name (i := 6) sc__law_dealt.nd rfl (by first | exact Or.inl rfl | exact Or.inr rfl)) (fun _ _ _ _ _ => pts_nil) (fun _ _ _ _ _ => (pe_callTy call_tuple_of (by rfl) (by exact f_tuple) (by decide +kernel) (pa_cons (pv 6) pa_nil)))) pa_nil)))))),
  (ss_seq (ss_asgW (sw_lc (si_rng1 (sa_cons se_var sa_nil)) (by decide) sg_name st_yes (sl_lst sa_nil)))
  (ss_seq (ss_for (si_rng1 (sa_cons (se_n o_len (sa_cons se_var sa_nil)) sa_nil)) sg_name (ss_for (si_rng1 (sa_cons (se_n o_len (sa_cons se_var sa_nil)) sa_nil)) sg_name (ss_seq (ss_asg (se_callD (sa_cons se_var (sa_cons (se_2 o_ix se_var se_var) (sa_cons (se_2 o_ix se_var se_var) sa_nil)))) sg_name)
  (ss_seq (ss_if (st_test (se_2 o_is se_var se_non)) (ss_ret se_non) ss_next)
  (ss_appLL se_var (se_tup (sa_cons se_var (sa_cons se_var sa_nil))))))))
  (ss_ret (se_n o_tuple (sa_cons (se_l (sl_lc (si_seq se_frz) (by decide) sg_name st_yes (se_n o_tuple (sa_cons se_var sa_nil)))) sa_nil)))))⟩
theorem cal__law_sums (T : TX K mg) : CalG P w K mg base 1 d__law_sums [("_law_dealt_here" : Str), ("_law_one" : Str), ("_law_other" : Str)] (spP K mg M__law_sums) := by
  have f_int : mg "int" = none := T.free "int" (mem_at 45 rfl)
  have f_tuple : mg "tuple" = none := T.free "tuple" (mem_at 51 rfl)
  obtain ⟨fd, F0⟩ := T.says.def_ (d := d__law_sums) (mem_at 36 rfl)
  have F : FunD K d__law_sums.name d__law_sums.qual d__law_sums.params d__law_sums.body d__law_sums.scope [] [] (He.fAd K d__law_sums.at_) fd := F0
  have B : Binds K fd [("_law_dealt_here" : Str), ("_law_one" : Str), ("_law_other" : Str)] [] := F.bindsN fun _ _ _ _ _ _ us hl => match us, hl with | [_, _, _], _ => rfl
  have glo : mg d__law_sums.name = some (.ref (He.fAd K d__law_sums.at_)) := T.glo "_law_sums" (mem_at 36 rfl)
  refine ⟨⟨fd, F, ?_, B⟩, glo⟩
  refine fnP_ok F sc__law_sums (by decide) ?_
  intro cdv A outer s H E hgd hr
  exact ⟨_, (pss_cons (ps_set (i := 3) sc__law_sums.nd rfl (Or.inl rfl) (pe_lst pa_nil))
  (pss_cons (ps_for (passes_of rfl) rfl (pi_seq (pv 0)) (pg_name (i := 4) sc__law_sums.nd rfl (Or.inl rfl)) (pss_cons (ps_set (i := 5) sc__law_sums.nd rfl (Or.inl rfl) pe_int)
  (pss_cons (ps_for (passes_of rfl) rfl (pi_seq (pv 4)) (pg_name (i := 6) sc__law_sums.nd rfl (Or.inl rfl)) (pss_one (ps_set (i := 5) sc__law_sums.nd rfl (Or.inl rfl) (pe_op op_add3 (pv 5) (pe_op op_mulX (pe_ix ix_seq (pv 1) (pe_ix ix_seq (pv 6) pe_int fun _ _ => rfl) fun _ _ => rfl) (pe_ix ix_seq (pv 2) (pe_ix ix_seq (pv 6) pe_int fun _ _ => rfl) fun _ _ => rfl))))))
  (pss_one (ps_expr (pe_bm PySem.F.plainAttrs_list PySem.F.slot_list_append PySem.F.type_list_append mt_append (pv 3) (pa_cons (pe_op op_mod (pe_callTy call_int1 (by rfl) (by exact f_int) (by decide +kernel) (pa_cons (pv 5) pa_nil)) pe_int) pa_nil)))))))
  (pss_one (ps_ret (pe_callTy call_tuple_of (by rfl) (by exact f_tuple) (by decide +kernel) (pa_cons (pv 3) pa_nil)))))),
  (ss_seq (ss_asgO (sl_lst sa_nil))
  (ss_seq (ss_for (si_seq se_var) sg_name (ss_seq (ss_asg se_int sg_name)
  (ss_seq (ss_for (si_seq se_var) sg_name (ss_asg (se_2 o_add se_var (se_2 o_mul (se_2 o_ix se_var (se_2 o_ix se_var se_int)) (se_2 o_ix se_var (se_2 o_ix se_var se_int)))) sg_name))
  (ss_app (se_2 o_mod (se_n o_int (sa_cons se_var sa_nil)) se_int)))))
  (ss_ret (se_n o_tuple (sa_cons se_var sa_nil)))))⟩
theorem cal__law_products (T : TX K mg) : CalG P w K mg base 11 d__law_products [("_law_state" : Str), ("_law_many" : Str), ("_law_lots_here" : Str)] (spD K mg M__law_products) := by
  have c__law_bits : CalG P w K mg base 2 d__law_bits [("_law_state" : Str), ("_law_many" : Str)] (spD K mg M__law_bits) := cal__law_bits T
  have c__law_dealt : CalG P w K mg base 2 d__law_dealt [("_law_many" : Str), ("_law_lots_here" : Str)] (spP K mg M__law_dealt) := cal__law_dealt T
  have c_product_sums : CalG P w K mg base 8 d_product_sums [("many" : Str), ("lots" : Str), ("one" : Str), ("other" : Str)] (spP K mg M_product_sums) := cal_product_sums T
  have c__law_same : CalG P w K mg base 6 d__law_same [("_law_told" : Str), ("_law_due" : Str)] (spP K mg M__law_same) := cal__law_same T
  have c__law_sums : CalG P w K mg base 1 d__law_sums [("_law_dealt_here" : Str), ("_law_one" : Str), ("_law_other" : Str)] (spP K mg M__law_sums) := cal__law_sums T
  obtain ⟨fdq__law_refused, Fq__law_refused, Bq__law_refused, gq__law_refused⟩ := calq__law_refused T
  have c_dealt_pairs : CalG P w K mg base 7 d_dealt_pairs [("many" : Str), ("lots" : Str)] (spP K mg M_dealt_pairs) := cal_dealt_pairs T
  have c_helper_of : CalG P w K mg base 6 d_helper_of [("many" : Str), ("one" : Str), ("other" : Str)] (spP K mg M_helper_of) := cal_helper_of T
  have c__law_helper : CalG P w K mg base 1 d__law_helper [("_law_many" : Str), ("_law_one" : Str), ("_law_other" : Str)] (spP K mg M__law_helper) := cal__law_helper T
  have f_int : mg "int" = none := T.free "int" (mem_at 45 rfl)
  have f_len : mg "len" = none := T.free "len" (mem_at 47 rfl)
  have f_range : mg "range" = none := T.free "range" (mem_at 49 rfl)
  have f_sum : mg "sum" = none := T.free "sum" (mem_at 50 rfl)
  obtain ⟨fd, F0⟩ := T.says.def_ (d := d__law_products) (mem_at 37 rfl)
  have F : FunD K d__law_products.name d__law_products.qual d__law_products.params d__law_products.body d__law_products.scope [] [] (He.fAd K d__law_products.at_) fd := F0
  have B : Binds K fd [("_law_state" : Str), ("_law_many" : Str), ("_law_lots_here" : Str)] [] := F.bindsN fun _ _ _ _ _ _ us hl => match us, hl with | [_, _, _], _ => rfl
  have glo : mg d__law_products.name = some (.ref (He.fAd K d__law_products.at_)) := T.glo "_law_products" (mem_at 37 rfl)
  refine ⟨⟨fd, F, ?_, B⟩, glo⟩
  obtain ⟨⟨cc, PP⟩, ht⟩ := tab__law_products T
  refine fnD_okC F sc__law_products (by decide) ?_
  intro cdv A outer s H E hci hgd hr
  exact ⟨_, (pss_cons (ps_set (i := 3) sc__law_products.nd rfl (Or.inr rfl) (pe_cal c__law_bits hgd hr (by decide) (passEN (L2N.takes_of rfl rfl rfl rfl)) (pa_cons (pv 0) (pa_cons (pe_callB call_len_seq (by rfl) (by exact f_len) (by decide +kernel) (pa_cons (pv 2) pa_nil)) pa_nil))))
  (pss_cons (ps_set (i := 4) sc__law_products.nd rfl (Or.inr rfl) (pe_cal c__law_bits hgd hr (by decide) (passEN (L2N.takes_of rfl rfl rfl rfl)) (pa_cons (pv 0) (pa_cons (pe_callB call_len_seq (by rfl) (by exact f_len) (by decide +kernel) (pa_cons (pv 2) pa_nil)) pa_nil))))
  (pss_cons (ps_for (passes_of rfl) rfl (pi_range1 (by rfl) (by exact f_range) (pa_cons (pe_callB call_len_seq (by rfl) (by exact f_len) (by decide +kernel) (pa_cons (pv 2) pa_nil)) pa_nil)) (pg_name (i := 5) sc__law_products.nd rfl (Or.inl rfl)) (pss_one (ps_for (passes_of rfl) rfl (pi_range1 (by rfl) (by exact f_range) (pa_cons (pe_callB call_len_seq (by rfl) (by exact f_len) (by decide +kernel) (pa_cons (pv 2) pa_nil)) pa_nil)) (pg_name (i := 8) sc__law_products.nd rfl (Or.inl rfl)) (pss_one (ps_if (pt_not (pt_truth (pe_cal c__law_same hgd hr (by decide) (passEN (L2N.takes_of rfl rfl rfl rfl)) (pa_cons (pe_cal c_helper_of hgd hr (by decide) (passEN (L2N.takes_of rfl rfl rfl rfl)) (pa_cons (pv 1) (pa_cons (pe_ix ix_seq (pv 2) (pv 5) fun _ _ => rfl) (pa_cons (pe_ix ix_seq (pv 2) (pv 8) fun _ _ => rfl) pa_nil)))) (pa_cons (pe_cal c__law_helper hgd hr (by decide) (passEN (L2N.takes_of rfl rfl rfl rfl)) (pa_cons (pv 1) (pa_cons (pe_ix ix_seq (pv 2) (pv 5) fun _ _ => rfl) (pa_cons (pe_ix ix_seq (pv 2) (pv 8) fun _ _ => rfl) pa_nil)))) pa_nil))) fun _ => rfl)) (pss_one (ps_ret pe_bl)) pss_nil)))))
  (pss_cons (ps_set (i := 6) sc__law_products.nd rfl (Or.inl rfl) (pe_cal c__law_dealt hgd hr (by decide) (passEN (L2N.takes_of rfl rfl rfl rfl)) (pa_cons (pv 1) (pa_cons (pv 2) pa_nil))))
  (pss_cons (ps_if (pt_cmpR op_isG (pv 6) pe_non (nomark _)) (pss_one (ps_ret (pe_and (pe_lam2 (k := 7) gq__law_refused Fq__law_refused.kp Fq__law_refused sc__law_refused rfl (.inl rfl) rfl Bq__law_refused (fun cdg => ask__law_refused T cdg) (LB.tb "_law_products" (by decide) _ _ ht) (hci _ _ ht glo) hgd (hr.mono (by decide)) (LamX.lamS_by (sc := d__law_products.scope) (by decide +kernel)) rfl (fun _ _ _ _ _ => rfl) pe_str (fun A outer s H E f c hgd hr => (pe_cal (E := fun _ => E) c_dealt_pairs hgd hr (by decide) (passEN takes_lamN) (pa_cons (pv 1) (pa_cons (pv 2) pa_nil))))) (pe_and (pe_lam2 (k := 8) gq__law_refused Fq__law_refused.kp Fq__law_refused sc__law_refused rfl (.inl rfl) rfl Bq__law_refused (fun cdg => ask__law_refused T cdg) (LB.tb "_law_products" (by decide) _ _ ht) (hci _ _ ht glo) hgd (hr.mono (by decide)) (LamX.lamS_by (sc := d__law_products.scope) (by decide +kernel)) rfl (fun _ _ _ _ _ => rfl) pe_str (fun A outer s H E f c hgd hr => (pe_cal (E := fun _ => E) c_product_sums hgd hr (by decide) (passEN takes_lamN) (pa_cons (pv 1) (pa_cons (pv 2) (pa_cons (pv 3) (pa_cons (pv 4) pa_nil))))))) (pe_one (pe_lam2 (k := 8) gq__law_refused Fq__law_refused.kp Fq__law_refused sc__law_refused rfl (.inl rfl) rfl Bq__law_refused (fun cdg => ask__law_refused T cdg) (LB.tb "_law_products" (by decide) _ _ ht) (hci _ _ ht glo) hgd (hr.mono (by decide)) (LamX.lamS_by (sc := d__law_products.scope) (by decide +kernel)) rfl (fun _ _ _ _ _ => rfl) pe_str (fun A outer s H E f c hgd hr => (pe_cal (E := fun _ => E) c_product_sums hgd hr (by decide) (passEN takes_lamN) (pa_cons (pv 1) (pa_cons (pv 2) (pa_cons (pv 3) (pa_cons pe_non pa_nil)))))))))))) pss_nil)
  (pss_cons (ps_if (pt_not (pt_truth (pe_cal c__law_same hgd hr (by decide) (passEN (L2N.takes_of rfl rfl rfl rfl)) (pa_cons (pe_cal c_dealt_pairs hgd hr (by decide) (passEN (L2N.takes_of rfl rfl rfl rfl)) (pa_cons (pv 1) (pa_cons (pv 2) pa_nil))) (pa_cons (pv 6) pa_nil))) fun _ => rfl)) (pss_one (ps_ret pe_bl)) pss_nil)
  (pss_cons (ps_set (i := 7) sc__law_products.nd rfl (Or.inl rfl) (pe_cal c_product_sums hgd hr (by decide) (passEN (L2N.takes_of rfl rfl rfl rfl)) (pa_cons (pv 1) (pa_cons (pv 2) (pa_cons (pv 3) (pa_cons (pv 4) pa_nil))))))
  (pss_cons (ps_if (pt_not (pt_truth (pe_cal c__law_same hgd hr (by decide) (passEN (L2N.takes_of rfl rfl rfl rfl)) (pa_cons (pv 7) (pa_cons (pe_cal c__law_sums hgd hr (by decide) (passEN (L2N.takes_of rfl rfl rfl rfl)) (pa_cons (pv 6) (pa_cons (pv 3) (pa_cons (pv 4) pa_nil)))) pa_nil))) fun _ => rfl)) (pss_one (ps_ret pe_bl)) pss_nil)
  (pss_cons (ps_if (pt_cmpR (op_neG (room65 hr)) (pe_op op_mod (pe_callTy call_int1 (by rfl) (by exact f_int) (by decide +kernel) (pa_cons (pe_callB (cr_sumT (by rfl)) (by rfl) (by exact f_sum) (by decide +kernel) (pa_cons (pv 7) pa_nil)) pa_nil)) pe_int) (pe_op op_mulX (pe_op op_mod (pe_callTy call_int1 (by rfl) (by exact f_int) (by decide +kernel) (pa_cons (pe_callB (cr_sumT (by rfl)) (by rfl) (by exact f_sum) (by decide +kernel) (pa_cons (pv 3) pa_nil)) pa_nil)) pe_int) (pe_op op_mod (pe_callTy call_int1 (by rfl) (by exact f_int) (by decide +kernel) (pa_cons (pe_callB (cr_sumT (by rfl)) (by rfl) (by exact f_sum) (by decide +kernel) (pa_cons (pv 4) pa_nil)) pa_nil)) pe_int)) (nomark _)) (pss_one (ps_ret pe_bl)) pss_nil)
  (pss_one (ps_ret (pe_cal c__law_same hgd hr (by decide) (passEN (L2N.takes_of rfl rfl rfl rfl)) (pa_cons (pe_cal c_product_sums hgd hr (by decide) (passEN (L2N.takes_of rfl rfl rfl rfl)) (pa_cons (pv 1) (pa_cons (pv 2) (pa_cons (pv 4) (pa_cons (pv 3) pa_nil))))) (pa_cons (pe_cal c__law_sums hgd hr (by decide) (passEN (L2N.takes_of rfl rfl rfl rfl)) (pa_cons (pv 6) (pa_cons (pv 4) (pa_cons (pv 3) pa_nil)))) pa_nil)))))))))))))),
  (ss_seq (ss_asg (se_callM (sa_cons (se_n o_len (sa_cons se_var sa_nil)) sa_nil)) sg_name)
  (ss_seq (ss_asg (se_callM (sa_cons (se_n o_len (sa_cons se_var sa_nil)) sa_nil)) sg_name)
  (ss_seq (ss_for (si_rng1 (sa_cons (se_n o_len (sa_cons se_var sa_nil)) sa_nil)) sg_name (ss_for (si_rng1 (sa_cons (se_n o_len (sa_cons se_var sa_nil)) sa_nil)) sg_name (ss_if (st_not (st_tru (se_callD (sa_cons (se_callD (sa_cons se_var (sa_cons (se_2 o_ix se_var se_var) (sa_cons (se_2 o_ix se_var se_var) sa_nil)))) (sa_cons (se_callD (sa_cons se_var (sa_cons (se_2 o_ix se_var se_var) (sa_cons (se_2 o_ix se_var se_var) sa_nil)))) sa_nil))))) (ss_ret se_bl) ss_next)))
  (ss_seq (ss_asg (se_callD (sa_cons se_var (sa_cons se_var sa_nil))) sg_name)
  (ss_seq (ss_if (st_test (se_2 o_is se_var se_non)) (ss_ret (se_and (se_ask (tb_mem (x := "_law_products") (by decide) ht) LB.nd (sa_cons se_str sa_nil) (fun E => (se_callD (sa_cons se_var (sa_cons se_var sa_nil))))) (se_and (se_ask (tb_mem (x := "_law_products") (by decide) ht) LB.nd (sa_cons se_str sa_nil) (fun E => (se_callD (sa_cons se_var (sa_cons se_var (sa_cons se_var (sa_cons se_var sa_nil))))))) (se_ask (tb_mem (x := "_law_products") (by decide) ht) LB.nd (sa_cons se_str sa_nil) (fun E => (se_callD (sa_cons se_var (sa_cons se_var (sa_cons se_var (sa_cons se_non sa_nil)))))))))) ss_next)
  (ss_seq (ss_if (st_not (st_tru (se_callD (sa_cons (se_callD (sa_cons se_var (sa_cons se_var sa_nil))) (sa_cons se_var sa_nil))))) (ss_ret se_bl) ss_next)
  (ss_seq (ss_asg (se_callD (sa_cons se_var (sa_cons se_var (sa_cons se_var (sa_cons se_var sa_nil))))) sg_name)
  (ss_seq (ss_if (st_not (st_tru (se_callD (sa_cons se_var (sa_cons (se_callD (sa_cons se_var (sa_cons se_var (sa_cons se_var sa_nil)))) sa_nil))))) (ss_ret se_bl) ss_next)
  (ss_seq (ss_if (st_test (se_2 o_ne (se_2 o_mod (se_n o_int (sa_cons (se_n o_sumT (sa_cons se_var sa_nil)) sa_nil)) se_int) (se_2 o_mul (se_2 o_mod (se_n o_int (sa_cons (se_n o_sumT (sa_cons se_var sa_nil)) sa_nil)) se_int) (se_2 o_mod (se_n o_int (sa_cons (se_n o_sumT (sa_cons se_var sa_nil)) sa_nil)) se_int)))) (ss_ret se_bl) ss_next)
  (ss_ret (se_callD (sa_cons (se_callD (sa_cons se_var (sa_cons se_var (sa_cons se_var (sa_cons se_var sa_nil))))) (sa_cons (se_callD (sa_cons se_var (sa_cons se_var (sa_cons se_var sa_nil)))) sa_nil)))))))))))))⟩
theorem cal__law_within (T : TX K mg) : CalG P w K mg base 1 d__law_within [("_law_lot" : Str), ("_law_wide" : Str)] (spP K mg M__law_within) := by
  obtain ⟨fd, F0⟩ := T.says.def_ (d := d__law_within) (mem_at 38 rfl)
  have F : FunD K d__law_within.name d__law_within.qual d__law_within.params d__law_within.body d__law_within.scope [] [] (He.fAd K d__law_within.at_) fd := F0
  have B : Binds K fd [("_law_lot" : Str), ("_law_wide" : Str)] [] := F.bindsN fun _ _ _ _ _ _ us hl => match us, hl with | [_, _], _ => rfl
  have glo : mg d__law_within.name = some (.ref (He.fAd K d__law_within.at_)) := T.glo "_law_within" (mem_at 38 rfl)
  refine ⟨⟨fd, F, ?_, B⟩, glo⟩
  refine fnP_ok F sc__law_within (by decide) ?_
  intro cdv A outer s H E hgd hr
  exact ⟨_, (pss_cons (ps_for (passes_of rfl) rfl (pi_seq (pv 0)) (pg_name (i := 2) sc__law_within.nd rfl (Or.inl rfl)) (pss_one (ps_if (pt_cmpR (op_notInG (room65 hr)) (pv 2) (pv 1) (by with_unfolding_all rfl)) (pss_one (ps_ret pe_bl)) pss_nil)))
  (pss_one (ps_ret pe_bl))),
  (ss_seq (ss_for (si_seq se_var) sg_name (ss_if (st_test (se_2 o_notIn se_var se_var)) (ss_ret se_bl) ss_next))
  (ss_ret se_bl))⟩
theorem cal__law_gets (T : TX K mg) : CalG P w K mg base 1 d__law_gets [("_law_lots_here" : Str), ("_law_house" : Str), ("_law_pieces_here" : Str)] (spP K mg M__law_gets) := by
  have f_len : mg "len" = none := T.free "len" (mem_at 47 rfl)
  have f_range : mg "range" = none := T.free "range" (mem_at 49 rfl)
  have f_tuple : mg "tuple" = none := T.free "tuple" (mem_at 51 rfl)
  obtain ⟨fd, F0⟩ := T.says.def_ (d := d__law_gets) (mem_at 39 rfl)
  have F : FunD K d__law_gets.name d__law_gets.qual d__law_gets.params d__law_gets.body d__law_gets.scope [] [] (He.fAd K d__law_gets.at_) fd := F0
  have B : Binds K fd [("_law_lots_here" : Str), ("_law_house" : Str), ("_law_pieces_here" : Str)] [] := F.bindsN fun _ _ _ _ _ _ us hl => match us, hl with | [_, _, _], _ => rfl
  have glo : mg d__law_gets.name = some (.ref (He.fAd K d__law_gets.at_)) := T.glo "_law_gets" (mem_at 39 rfl)
  refine ⟨⟨fd, F, ?_, B⟩, glo⟩
  refine fnP_ok F sc__law_gets (by decide) ?_
  intro cdv A outer s H E hgd hr
  exact ⟨_, (pss_one (ps_ret (pe_callTy call_tuple_of (by rfl) (by exact f_tuple) (by decide +kernel) (pa_cons (pe_lc (own := [(("_law_k" : Str), 3)]) (g := gName 3) rfl sc__law_gets.nd (pi_range1 (by rfl) (by exact f_range) (pa_cons (pe_callB call_len_seq (by rfl) (by exact f_len) (by decide +kernel) (pa_cons (pv 0) pa_nil)) pa_nil)) (blkOk_by (own := [(("_law_k" : Str), 3)]) (N := N__law_gets) (sc := d__law_gets.scope) (by decide +kernel)) (fun _ _ _ _ _ => pg_name (i := 3) sc__law_gets.nd rfl (by first | exact Or.inl rfl | exact Or.inr rfl)) (fun _ _ _ _ _ => pts_one (pt_cmpR (op_notInG (room65 hr)) (pv 1) (pe_ix ix_seq (pv 0) (pv 3) fun _ _ => rfl) (by with_unfolding_all rfl))) (fun _ _ _ _ _ => (pe_ix ix_seq (pv 2) (pv 3) fun _ _ => rfl))) pa_nil)))),
  (ss_ret (se_n o_tuple (sa_cons (se_l (sl_lc (si_rng1 (sa_cons (se_n o_len (sa_cons se_var sa_nil)) sa_nil)) (by decide) sg_name (st_test (se_2 o_notIn se_var (se_2 o_ix se_var se_var))) (se_2 o_ix se_var se_var))) sa_nil)))⟩
theorem cal__law_seen (T : TX K mg) : CalG P w K mg base 8 d__law_seen [("_law_state" : Str), ("_law_many" : Str), ("_law_lots_here" : Str)] (spD K mg M__law_seen) := by
  have c__law_draw : CalG P w K mg base 1 d__law_draw [("_law_state" : Str), ("_law_many" : Str)] (spD K mg M__law_draw) := cal__law_draw T
  have c_gets_of : CalG P w K mg base 7 d_gets_of [("many" : Str), ("lots" : Str), ("house" : Str), ("pieces" : Str)] (spP K mg M_gets_of) := cal_gets_of T
  have c__law_same : CalG P w K mg base 6 d__law_same [("_law_told" : Str), ("_law_due" : Str)] (spP K mg M__law_same) := cal__law_same T
  have c__law_within : CalG P w K mg base 1 d__law_within [("_law_lot" : Str), ("_law_wide" : Str)] (spP K mg M__law_within) := cal__law_within T
  have c__law_gets : CalG P w K mg base 1 d__law_gets [("_law_lots_here" : Str), ("_law_house" : Str), ("_law_pieces_here" : Str)] (spP K mg M__law_gets) := cal__law_gets T
  have f_int : mg "int" = none := T.free "int" (mem_at 45 rfl)
  have f_len : mg "len" = none := T.free "len" (mem_at 47 rfl)
  have f_list : mg "list" = none := T.free "list" (mem_at 48 rfl)
  have f_range : mg "range" = none := T.free "range" (mem_at 49 rfl)
  have f_sum : mg "sum" = none := T.free "sum" (mem_at 50 rfl)
  have f_tuple : mg "tuple" = none := T.free "tuple" (mem_at 51 rfl)
  obtain ⟨fd, F0⟩ := T.says.def_ (d := d__law_seen) (mem_at 40 rfl)
  have F : FunD K d__law_seen.name d__law_seen.qual d__law_seen.params d__law_seen.body d__law_seen.scope [] [] (He.fAd K d__law_seen.at_) fd := F0
  have B : Binds K fd [("_law_state" : Str), ("_law_many" : Str), ("_law_lots_here" : Str)] [] := F.bindsN fun _ _ _ _ _ _ us hl => match us, hl with | [_, _, _], _ => rfl
  have glo : mg d__law_seen.name = some (.ref (He.fAd K d__law_seen.at_)) := T.glo "_law_seen" (mem_at 40 rfl)
  refine ⟨⟨fd, F, ?_, B⟩, glo⟩
  refine fnD_ok F sc__law_seen (by decide) ?_
  intro cdv A outer s H E hgd hr
  exact ⟨_, (pss_cons (ps_set (i := 3) sc__law_seen.nd rfl (Or.inl rfl) (pe_lst (pa_cons (pe_tup pa_nil) pa_nil)))
  (pss_cons (ps_for (passes_of rfl) rfl (pi_range1 (by rfl) (by exact f_range) (pa_cons (pe_callB call_len_seq (by rfl) (by exact f_len) (by decide +kernel) (pa_cons (pv 2) pa_nil)) pa_nil)) (pg_name (i := 4) sc__law_seen.nd rfl (Or.inl rfl)) (pss_one (ps_set (i := 3) sc__law_seen.nd rfl (Or.inl rfl) (pe_op op_add3 (pe_lc (own := [(("_law_row" : Str), 7)]) (g := gName 7) rfl sc__law_seen.nd (pi_seq (pv 3)) (blkOk_by (own := [(("_law_row" : Str), 7)]) (N := N__law_seen) (sc := d__law_seen.scope) (by decide +kernel)) (fun _ _ _ _ _ => pg_name (i := 7) sc__law_seen.nd rfl (by first | exact Or.inl rfl | exact Or.inr rfl)) (fun _ _ _ _ _ => pts_nil) (fun _ _ _ _ _ => (pe_op op_add3 (pv 7) (pe_tup (pa_cons pe_int pa_nil))))) (pe_lc (own := [(("_law_row" : Str), 7)]) (g := gName 7) rfl sc__law_seen.nd (pi_seq (pv 3)) (blkOk_by (own := [(("_law_row" : Str), 7)]) (N := N__law_seen) (sc := d__law_seen.scope) (by decide +kernel)) (fun _ _ _ _ _ => pg_name (i := 7) sc__law_seen.nd rfl (by first | exact Or.inl rfl | exact Or.inr rfl)) (fun _ _ _ _ _ => pts_nil) (fun _ _ _ _ _ => (pe_op op_add3 (pv 7) (pe_tup (pa_cons pe_int pa_nil)))))))))
  (pss_cons (ps_if (pt_cmpR (op_gtG (room65 hr)) (pe_callB call_len_seq (by rfl) (by exact f_len) (by decide +kernel) (pa_cons (pv 2) pa_nil)) pe_int (nomark _)) (pss_one (ps_set (i := 3) sc__law_seen.nd rfl (Or.inl rfl) (pe_lst (pa_cons (pe_ix ix_seq (pv 3) (pe_cal c__law_draw hgd hr (by decide) (passEN (L2N.takes_of rfl rfl rfl rfl)) (pa_cons (pv 0) (pa_cons pe_int pa_nil))) fun _ _ => rfl) (pa_cons (pe_ix ix_seq (pv 3) (pe_cal c__law_draw hgd hr (by decide) (passEN (L2N.takes_of rfl rfl rfl rfl)) (pa_cons (pv 0) (pa_cons pe_int pa_nil))) fun _ _ => rfl) pa_nil))))) pss_nil)
  (pss_cons (ps_set (i := 5) sc__law_seen.nd rfl (Or.inr rfl) (pe_callTy call_tuple_of (by rfl) (by exact f_tuple) (by decide +kernel) (pa_cons (pe_lc (own := [(("_law_house" : Str), 10)]) (g := gName 10) rfl sc__law_seen.nd (pi_range1 (by rfl) (by exact f_range) (pa_cons (pv 1) pa_nil)) (blkOk_by (own := [(("_law_house" : Str), 10)]) (N := N__law_seen) (sc := d__law_seen.scope) (by decide +kernel)) (fun _ _ _ _ _ => pg_name (i := 10) sc__law_seen.nd rfl (by first | exact Or.inl rfl | exact Or.inr rfl)) (fun _ _ _ _ _ => pts_one (pt_cmpR (op_eqG (room65 hr)) (pe_cal c__law_draw hgd hr (by decide) passF (pa_cons (pv 0) (pa_cons pe_int pa_nil))) pe_int (nomark _))) (fun _ _ _ _ _ => (pv 10))) pa_nil)))
  (pss_cons (ps_if (pt_cmpR (op_eqG (room65 hr)) (pe_cal c__law_draw hgd hr (by decide) (passEN (L2N.takes_of rfl rfl rfl rfl)) (pa_cons (pv 0) (pa_cons pe_int pa_nil))) pe_int (nomark _)) (pss_one (ps_set (i := 5) sc__law_seen.nd rfl (Or.inr rfl) (pe_callTy call_tuple_of (by rfl) (by exact f_tuple) (by decide +kernel) (pa_cons (pe_lc (own := [(("_law_house" : Str), 10)]) (g := gName 10) rfl sc__law_seen.nd (pi_seq (pe_ix ix_seq (pv 2) (pe_cal c__law_draw hgd hr (by decide) (passEN (L2N.takes_of rfl rfl rfl rfl)) (pa_cons (pv 0) (pa_cons (pe_callB call_len_seq (by rfl) (by exact f_len) (by decide +kernel) (pa_cons (pv 2) pa_nil)) pa_nil))) fun _ _ => rfl)) (blkOk_by (own := [(("_law_house" : Str), 10)]) (N := N__law_seen) (sc := d__law_seen.scope) (by decide +kernel)) (fun _ _ _ _ _ => pg_name (i := 10) sc__law_seen.nd rfl (by first | exact Or.inl rfl | exact Or.inr rfl)) (fun _ _ _ _ _ => pts_one (pt_cmpR (op_gtG (room65 hr)) (pe_cal c__law_draw hgd hr (by decide) passF (pa_cons (pv 0) (pa_cons pe_int pa_nil))) pe_int (nomark _))) (fun _ _ _ _ _ => (pv 10))) pa_nil)))) pss_nil)
  (pss_cons (ps_set (i := 6) sc__law_seen.nd rfl (Or.inl rfl) pe_vnew)
  (pss_cons (ps_for (passes_of rfl) rfl (pi_seq (pv 3)) (pg_name (i := 7) sc__law_seen.nd rfl (Or.inl rfl)) (pss_cons (ps_set (i := 9) sc__law_seen.nd rfl (Or.inl rfl) (pe_tup pa_nil))
  (pss_cons (ps_for (passes_of rfl) rfl (pi_range1 (by rfl) (by exact f_range) (pa_cons (pv 1) pa_nil)) (pg_name (i := 10) sc__law_seen.nd rfl (Or.inl rfl)) (pss_cons (ps_set (i := 13) sc__law_seen.nd rfl (Or.inl rfl) (pe_cal c_gets_of hgd hr (by decide) (passEN (L2N.takes_of rfl rfl rfl rfl)) (pa_cons (pv 1) (pa_cons (pv 2) (pa_cons (pv 10) (pa_cons (pv 7) pa_nil))))))
  (pss_cons (ps_if (pt_not (pt_truth (pe_cal c__law_same hgd hr (by decide) (passEN (L2N.takes_of rfl rfl rfl rfl)) (pa_cons (pv 13) (pa_cons (pe_cal c__law_gets hgd hr (by decide) (passEN (L2N.takes_of rfl rfl rfl rfl)) (pa_cons (pv 2) (pa_cons (pv 10) (pa_cons (pv 7) pa_nil)))) pa_nil))) fun _ => rfl)) (pss_one (ps_ret pe_bl)) pss_nil)
  (pss_one (ps_if (pt_cmpR (op_inG (room65 hr)) (pv 10) (pv 5) (by with_unfolding_all rfl)) (pss_one (ps_set (i := 9) sc__law_seen.nd rfl (Or.inl rfl) (pe_op op_add3 (pv 9) (pe_tup (pa_cons (pv 13) pa_nil))))) pss_nil)))))
  (pss_cons (ps_set (i := 11) sc__law_seen.nd rfl (Or.inl rfl) (pe_vget2 (room65 hr) (pv 6) (pv 9) (pe_tup (pa_cons pe_int (pa_cons pe_int pa_nil))) ⟨rfl, rfl, rfl, rfl⟩))
  (pss_cons (ps_set (i := 12) sc__law_seen.nd rfl (Or.inl rfl) (pe_op op_mod (pe_callTy call_int1 (by rfl) (by exact f_int) (by decide +kernel) (pa_cons (pe_callB (cr_sumT (by rfl)) (by rfl) (by exact f_sum) (by decide +kernel) (pa_cons (pv 7) pa_nil)) pa_nil)) pe_int))
  (pss_one (ps_vput (room65 hr) (pv 6) (pv 9) (pe_tup (pa_cons (pe_op op_sub (pe_op op_add3 (pe_ix ix_seq (pv 11) pe_int fun _ _ => rfl) pe_int) (pv 12)) (pa_cons (pe_op op_add3 (pe_ix ix_seq (pv 11) pe_int fun _ _ => rfl) (pv 12)) pa_nil))) (by rfl))))))))
  (pss_cons (ps_if (pt_cmpR (op_gtG (room65 hr)) (pe_callB call_len_seq (by rfl) (by exact f_len) (by decide +kernel) (pa_cons (pv 2) pa_nil)) pe_int (nomark _)) (pss_one (ps_ret pe_bl)) pss_nil)
  (pss_cons (ps_set (i := 8) sc__law_seen.nd rfl (Or.inl rfl) (pe_callB call_len_seq (by rfl) (by exact f_len) (by decide +kernel) (pa_cons (pe_lc (own := [(("_law_k" : Str), 4)]) (g := gName 4) rfl sc__law_seen.nd (pi_range1 (by rfl) (by exact f_range) (pa_cons (pe_callB call_len_seq (by rfl) (by exact f_len) (by decide +kernel) (pa_cons (pv 2) pa_nil)) pa_nil)) (blkOk_by (own := [(("_law_k" : Str), 4)]) (N := N__law_seen) (sc := d__law_seen.scope) (by decide +kernel)) (fun _ _ _ _ _ => pg_name (i := 4) sc__law_seen.nd rfl (by first | exact Or.inl rfl | exact Or.inr rfl)) (fun _ _ _ _ _ => pts_one (pt_truth (pe_cal c__law_within hgd hr (by decide) passF (pa_cons (pv 5) (pa_cons (pe_ix ix_seq (pv 2) (pv 4) fun _ _ => rfl) pa_nil))) fun _ => rfl)) (fun _ _ _ _ _ => (pv 4))) pa_nil)))
  (pss_cons (ps_for (passes_of rfl) rfl (pi_seq (pe_callTy (call_keysW (by rfl)) (by rfl) (by exact f_list) (by decide +kernel) (pa_cons (pe_vkeys (pv 6)) pa_nil))) (pg_name (i := 9) sc__law_seen.nd rfl (Or.inl rfl)) (pss_cons (ps_if (PW.pt (pw_and (pt_cmpR (op_gtG (room65 hr)) (pv 8) pe_int (nomark _)) (pw_and1 (pt_cmpR (op_neG (room65 hr)) (pe_ix ix_seq (pe_vget (room65 hr) (pv 6) (pv 9) fun _ _ => rfl) pe_int fun _ _ => rfl) (pe_ix ix_seq (pe_vget (room65 hr) (pv 6) (pv 9) fun _ _ => rfl) pe_int fun _ _ => rfl) (nomark _))))) (pss_one (ps_ret pe_bl)) pss_nil)
  (pss_one (ps_if (PW.pt (pw_and (pt_cmpR (op_eqG (room65 hr)) (pv 8) pe_int (nomark _)) (pw_and1 (pt_cmpR (op_neG (room65 hr)) (pe_op op_add3 (pe_ix ix_seq (pe_vget (room65 hr) (pv 6) (pv 9) fun _ _ => rfl) pe_int fun _ _ => rfl) (pe_ix ix_seq (pe_vget (room65 hr) (pv 6) (pv 9) fun _ _ => rfl) pe_int fun _ _ => rfl)) pe_int (nomark _))))) (pss_one (ps_ret pe_bl)) pss_nil))))
  (pss_one (ps_ret pe_bl)))))))))))),
  (ss_seq (ss_asg (se_l (sl_lst (sa_cons (se_tup sa_nil) sa_nil))) sg_name)
  (ss_seq (ss_for (si_rng1 (sa_cons (se_n o_len (sa_cons se_var sa_nil)) sa_nil)) sg_name (ss_asg (se_2 o_add (se_l (sl_lc (si_seq se_var) (by decide) sg_name st_yes (se_2 o_add se_var (se_tup (sa_cons se_int sa_nil))))) (se_l (sl_lc (si_seq se_var) (by decide) sg_name st_yes (se_2 o_add se_var (se_tup (sa_cons se_int sa_nil)))))) sg_name))
  (ss_seq (ss_if (st_test (se_2 o_gt (se_n o_len (sa_cons se_var sa_nil)) se_int)) (ss_asg (se_l (sl_lst (sa_cons (se_2 o_ix se_var (se_callM (sa_cons se_int sa_nil))) (sa_cons (se_2 o_ix se_var (se_callM (sa_cons se_int sa_nil))) sa_nil)))) sg_name) ss_next)
  (ss_seq (ss_asg (se_n o_tuple (sa_cons (se_l (sl_lc (si_rng1 (sa_cons se_var sa_nil)) (by decide) sg_name (st_test (se_2 o_eq (se_callM (sa_cons se_int sa_nil)) se_int)) se_var)) sa_nil)) sg_name)
  (ss_seq (ss_if (st_test (se_2 o_eq (se_callM (sa_cons se_int sa_nil)) se_int)) (ss_asg (se_n o_tuple (sa_cons (se_l (sl_lc (si_seq (se_2 o_ix se_var (se_callM (sa_cons (se_n o_len (sa_cons se_var sa_nil)) sa_nil)))) (by decide) sg_name (st_test (se_2 o_gt (se_callM (sa_cons se_int sa_nil)) se_int)) se_var)) sa_nil)) sg_name) ss_next)
  (ss_seq ss_newV
  (ss_seq (ss_for (si_seq se_var) sg_name (ss_seq (ss_asg (se_tup sa_nil) sg_name)
  (ss_seq (ss_for (si_rng1 (sa_cons se_var sa_nil)) sg_name (ss_seq (ss_asg (se_callD (sa_cons se_var (sa_cons se_var (sa_cons se_var (sa_cons se_var sa_nil))))) sg_name)
  (ss_seq (ss_if (st_not (st_tru (se_callD (sa_cons se_var (sa_cons (se_callD (sa_cons se_var (sa_cons se_var (sa_cons se_var sa_nil)))) sa_nil))))) (ss_ret se_bl) ss_next)
  (ss_if (st_test (se_2 o_in se_var se_var)) (ss_asg (se_2 o_add se_var (se_tup (sa_cons se_var sa_nil))) sg_name) ss_next))))
  (ss_seq (ss_asg (se_getDV se_var (se_tup (sa_cons se_int (sa_cons se_int sa_nil)))) sg_name)
  (ss_seq (ss_asg (se_2 o_mod (se_n o_int (sa_cons (se_n o_sumT (sa_cons se_var sa_nil)) sa_nil)) se_int) sg_name)
  (ss_putV se_var (se_tup (sa_cons (se_2 o_sub (se_2 o_add (se_2 o_ix se_var se_int) se_int) se_var) (sa_cons (se_2 o_add (se_2 o_ix se_var se_int) se_var) sa_nil)))))))))
  (ss_seq (ss_if (st_test (se_2 o_gt (se_n o_len (sa_cons se_var sa_nil)) se_int)) (ss_ret se_bl) ss_next)
  (ss_seq (ss_asg (se_n o_len (sa_cons (se_l (sl_lc (si_rng1 (sa_cons (se_n o_len (sa_cons se_var sa_nil)) sa_nil)) (by decide) sg_name (st_tru (se_callD (sa_cons se_var (sa_cons (se_2 o_ix se_var se_var) sa_nil)))) se_var)) sa_nil)) sg_name)
  (ss_seq (ss_for (si_seq (se_l sl_keysD)) sg_name (ss_seq (ss_if (st_and (st_test (se_2 o_gt se_var se_int)) (st_test (se_2 o_ne (se_2 o_ix (se_getV se_var) se_int) (se_2 o_ix (se_getV se_var) se_int)))) (ss_ret se_bl) ss_next)
  (ss_if (st_and (st_test (se_2 o_eq se_var se_int)) (st_test (se_2 o_ne (se_2 o_add (se_2 o_ix (se_getV se_var) se_int) (se_2 o_ix (se_getV se_var) se_int)) se_int))) (ss_ret se_bl) ss_next)))
  (ss_ret se_bl)))))))))))⟩
theorem cal_law (T : TX K mg) : CalG P w K mg base 13 d_law [("_law_script" : Str)] (spL K mg M_law) := by
  have c__law_start : CalG P w K mg base 1 d__law_start [("_law_script" : Str)] (spO K mg M__law_start) := cal__law_start T
  have c__law_lots : CalG P w K mg base 2 d__law_lots [("_law_state" : Str), ("_law_many" : Str)] (spD K mg M__law_lots) := cal__law_lots T
  have c__law_refusals : CalG P w K mg base 12 d__law_refusals [("_law_state" : Str), ("_law_many" : Str), ("_law_lots_here" : Str)] (spD K mg M__law_refusals) := cal__law_refusals T
  have c__law_draw : CalG P w K mg base 1 d__law_draw [("_law_state" : Str), ("_law_many" : Str)] (spD K mg M__law_draw) := cal__law_draw T
  have c__law_by_hand : CalG P w K mg base 9 d__law_by_hand [] (spP K mg M__law_by_hand) := cal__law_by_hand T
  have c__law_pieces : CalG P w K mg base 7 d__law_pieces [("_law_state" : Str), ("_law_bit" : Str)] (spD K mg M__law_pieces) := cal__law_pieces T
  have c__law_products : CalG P w K mg base 11 d__law_products [("_law_state" : Str), ("_law_many" : Str), ("_law_lots_here" : Str)] (spD K mg M__law_products) := cal__law_products T
  have c__law_seen : CalG P w K mg base 8 d__law_seen [("_law_state" : Str), ("_law_many" : Str), ("_law_lots_here" : Str)] (spD K mg M__law_seen) := cal__law_seen T
  obtain ⟨fd, F0⟩ := T.says.def_ (d := d_law) (mem_at 41 rfl)
  have F : FunD K d_law.name d_law.qual d_law.params d_law.body d_law.scope [] [] (He.fAd K d_law.at_) fd := F0
  have B : Binds K fd [("_law_script" : Str)] [] := F.bindsN fun _ _ _ _ _ _ us hl => match us, hl with | [_], _ => rfl
  have glo : mg d_law.name = some (.ref (He.fAd K d_law.at_)) := T.glo "law" (mem_at 41 rfl)
  refine ⟨⟨fd, F, ?_, B⟩, glo⟩
  refine fnL_ok F sc_law rfl (by decide) ?_
  intro cdv A outer s H E hci hgd hr
  exact ⟨_, (pss_cons (ps_set (i := 1) sc_law.nd rfl (Or.inl rfl) (pe_cal c__law_start hgd hr (by decide) (passEN (L2N.takes_of rfl rfl rfl rfl)) (pa_cons (pv 0) pa_nil)))
  (pss_cons (ps_set (i := 2) sc_law.nd rfl (Or.inl rfl) (pe_op op_add3 pe_int (pe_cal c__law_draw hgd hr (by decide) (passEN (L2N.takes_of rfl rfl rfl rfl)) (pa_cons (pv 1) (pa_cons pe_int pa_nil)))))
  (pss_cons (ps_set (i := 3) sc_law.nd rfl (Or.inl rfl) (pe_cal c__law_lots hgd hr (by decide) (passEN (L2N.takes_of rfl rfl rfl rfl)) (pa_cons (pv 1) (pa_cons (pv 2) pa_nil))))
  (pss_cons (ps_if (PW.pt (pw_or (pt_not (pt_truth (pe_calE c__law_by_hand hgd hr (by decide) (passEN (L2N.takes_of rfl rfl rfl rfl))) fun _ => rfl)) (pw_or1 (pt_not (pt_truth (pe_cal c__law_pieces hgd hr (by decide) (passEN (L2N.takes_of rfl rfl rfl rfl)) (pa_cons (pv 1) (pa_cons (pe_cal c__law_draw hgd hr (by decide) (passEN (L2N.takes_of rfl rfl rfl rfl)) (pa_cons (pv 1) (pa_cons pe_int pa_nil))) pa_nil))) fun _ => rfl))))) (pss_one (ps_ret pe_bl)) pss_nil)
  (pss_cons (ps_if (PW.pt (pw_or (pt_not (pt_truth (pe_cal c__law_products hgd hr (by decide) (passEN (L2N.takes_of rfl rfl rfl rfl)) (pa_cons (pv 1) (pa_cons (pv 2) (pa_cons (pv 3) pa_nil)))) fun _ => rfl)) (pw_or1 (pt_not (pt_truth (pe_cal c__law_seen hgd hr (by decide) (passEN (L2N.takes_of rfl rfl rfl rfl)) (pa_cons (pv 1) (pa_cons (pv 2) (pa_cons (pv 3) pa_nil)))) fun _ => rfl))))) (pss_one (ps_ret pe_bl)) pss_nil)
  (pss_one (ps_ret (pe_cal c__law_refusals hgd hr (by decide) (passEN (L2N.takes_of rfl rfl rfl rfl)) (pa_cons (pv 1) (pa_cons (pv 2) (pa_cons (pv 3) pa_nil))))))))))),
  (ss_seq (ss_asgT (sl_callO (sa_cons se_scr sa_nil)))
  (ss_seq (ss_asg (se_2 o_add se_int (se_callM (sa_cons se_int sa_nil))) sg_name)
  (ss_seq (ss_asg (se_callM (sa_cons se_var sa_nil)) sg_name)
  (ss_seq (ss_if (st_or (st_not (st_tru (se_callD sa_nil))) (st_not (st_tru (se_callM (sa_cons (se_callM (sa_cons se_int sa_nil)) sa_nil))))) (ss_ret se_bl) ss_next)
  (ss_seq (ss_if (st_or (st_not (st_tru (se_callM (sa_cons se_var (sa_cons se_var sa_nil))))) (st_not (st_tru (se_callM (sa_cons se_var (sa_cons se_var sa_nil)))))) (ss_ret se_bl) ss_next)
  (ss_ret (se_callM (sa_cons se_var (sa_cons se_var sa_nil)))))))))⟩
end
end K24
end
section
set_option Elab.async false
set_option linter.all false
set_option maxRecDepth 100000
set_option maxHeartbeats 4000000
namespace Mir
open PySem PySem.Spec PyProof.Rows L2
def frM {α : Type} (n : Nat) (k : Nat → α) : α := match n with
  | 0 => k 0
  | m + 1 => k (m + 1)
/-- what is new among as: mask tells what was met -/
def newA : List Addr → Nat → List Addr → (Nat → List Addr → List Addr) → List Addr
  | [], mk, acc, k => k mk acc
  | a :: as, mk, acc, k => frM a fun a => match Nat.land 1 (Nat.shiftRight mk a) with
    | 0 => frM (Nat.lor mk (Nat.shiftLeft 1 a)) fun mk' => newA as mk' (a :: acc) k
    | _ + 1 => newA as mk acc k
def refsG (g : Addr → Option Obj) (as : List Addr) : List Addr := as.flatMap fun a => match g a with
  | some o => He.refsD o
  | none => []
def walkA (g : Addr → Option Obj) : Nat → Nat → List Addr → List Addr
  | 0, _, fr => fr
  | n + 1, mk, fr => newA (refsG g fr) mk [] fun mk' new => fr ++ walkA g n mk' new
def asW (g : Addr → Option Obj) (n : Nat) : List Addr := walkA g n (Nat.shiftLeft 1 mainGlobals) [mainGlobals]
theorem map3 {S A B C : Type} {o : Option S} {f : S → A} {g : S → B} {h : S → C} {a : A} {b : B} {c : C} (h1 : o.map f = some a) (h2 : o.map g = some b) (h3 : o.map h = some c) : o.map (fun s => (f s, g s, h s)) = some (a, b, c) := by
  cases o with
  | none => cases h1
  | some s =>
    cases h1
    cases h2
    cases h3
    rfl
end Mir
namespace Mir
open PySem PySem.W PySem.Calls PyProof.Rows HandSHeadRun
def LooksEq (r : OpenRow) (M : Nat) (w : World) : Prop := ∀ os : OsState, (endF (stepQ (denQ tabQ) r.prog w) M r.prog w os).map (fun s => looksF r.prog (boot_heap w.params) s.abs) = some true
def SeenEq (r : OpenRow) (q : Program) (M : Nat) (loose : List PySem.Str) (w : World) : Prop := ∀ os : OsState, (endF (stepQ (denQ tabQ) r.prog w) M r.prog w os).map (fun s => seenQ q loose (importedModules r.prog.main.body) (fun s => xlAt q [] s && recOk r.toRowW.records s) s.abs) = some (openGood q loose)
def ObsEq (r : OpenRow) (H : Hook) (ob : SharedT → H.α) (M : Nat) (w : World) : Prop := ∀ os : OsState, (endF (stepQ (denQ tabQ) r.prog w) M r.prog w os).map (fun s => ob s) = some (H.val w)
/-- the run's equation out of its three parts -/
theorem runEq_of {r : OpenRow} {q : Program} {H : Hook} {ob : SharedT → H.α} {M : Nat} {loose : List PySem.Str} {w : World}
    (h1 : LooksEq r M w) (h2 : SeenEq r q M loose w) (h3 : ObsEq r H ob M w) : RunEq r q H ob M loose w := fun os => map3 (h1 os) (h2 os) (h3 os)
end Mir
end
section
set_option Elab.async false
set_option linter.all false
set_option maxRecDepth 100000
set_option maxHeartbeats 4000000
namespace Mir
open PySem PySem.Spec PyProof.Rows L2
def noTbl (g : Addr → Option Obj) (a : Addr) : Bool := match g a with
  | some o => match o.cls, o.data with
    | .none, .fields ps => !decide (ps.size = 0)
    | _, _ => true
  | none => true
def asX (g : Addr → Option Obj) (n : Nat) : List Addr := (asW g n).filter (noTbl g)
def obsNX (n : Nat) (fa : List He.Fa) (fn : List He.DefD) (ys : List YesNo) (g : Addr → Option Obj) : AlM := obsM fa fn ys (He.frG g (asX g n))
def hookX (n : Nat) (fa : List He.Fa) (fn : List He.DefD) (ys : List YesNo) : PySem.W.Hook where
  α := AlM
  obs := fun s => obsNX n fa fn ys s.heap.get?
  val := fun _ => valM fn
  says := fun _ h => ∃ K : PySem.W.Frag, K.In h ∧ SaysM fa fn ys K
  of := fun _ _ e => ⟨_, He.frG_in, e⟩
  keeps := fun _ _ _ ⟨K, hK, c⟩ k => ⟨K, PySem.W.Frag.In.keeps hK k, c⟩
theorem obsNX_eq {n : Nat} {fa : List He.Fa} {fn : List He.DefD} {ys : List YesNo} {g : Addr → Option Obj} {s : Shared} (h : ∀ a, g a = s.heap.get? a) : obsNX n fa fn ys g = (hookX n fa fn ys).obs s := by
  have e : g = s.heap.get? := funext h
  rw [e]
  rfl
end Mir
end
section
set_option Elab.async false
set_option linter.all false
set_option maxRecDepth 100000
set_option maxHeartbeats 4000000
namespace Mir
open PySem PySem.Spec PyProof.Rows L2
def Wp (x : Rs (Fl × En)) (Q : Fl → En → Prop) : Prop := ∃ fl en, x = .ok (fl, en) ∧ Q fl en
def Th (b : Sm) (Q : Fl → En → Prop) : Fl → En → Prop := fun fl en => match fl with
  | .nx => Wp (b en) Q
  | f => Q f en
def Is (d : D) : Fl → En → Prop := fun fl _ => match fl with
  | .rt r => r = d
  | .nx => d = .none
  | _ => False
/-- what a lap may end with -/
def Lap (N : En → Prop) (Q : Fl → En → Prop) : Fl → En → Prop := fun fl en => match fl with
  | .nx => N en
  | .ct => N en
  | .bk => Q .nx en
  | .rt d => Q (.rt d) en
section
variable {Q Q' : Fl → En → Prop} {en en1 en2 : En} {a b c : Sm}
theorem wp_seq (h : a en = .ok (.nx, en1)) (k : Wp (b en1) Q) : Wp (mSeq a b en) Q := by rw [mSeq_nx h]; exact k
theorem wp_bind (h : Wp (a en) (Th b Q)) : Wp (mSeq a b en) Q := by
  obtain ⟨fl, en1, h1, h2⟩ := h
  rw [mSeq_ap, h1, bind_ok]
  cases fl with
  | nx => exact h2
  | bk => exact ⟨_, _, rfl, h2⟩
  | ct => exact ⟨_, _, rfl, h2⟩
  | rt d => exact ⟨_, _, rfl, h2⟩
theorem wp_mono {x : Rs (Fl × En)} (h : Wp x Q) (hq : ∀ fl en, Q fl en → Q' fl en) : Wp x Q' := by
  obtain ⟨fl, en1, h1, h2⟩ := h
  exact ⟨fl, en1, h1, hq _ _ h2⟩
theorem wp_if {t : Mir.Tm} {x : Bool} (h : t en = .ok (x, en1)) (h1 : x = true → Wp (a en1) Q) (h0 : x = false → Wp (b en1) Q) : Wp (mIf t a b en) Q := by
  rw [mIf_ap, h, bind_ok]
  cases x with
  | true => rw [if_pos rfl]; exact h1 rfl
  | false => rw [if_neg Bool.false_ne_true]; exact h0 rfl
theorem wp_ifs {t : Mir.Tm} {x : Bool} (h : t en = .ok (x, en1)) (h1 : x = true → Wp (a en1) (Th c Q)) (h0 : x = false → Wp (b en1) (Th c Q)) : Wp (mSeq (mIf t a b) c en) Q := wp_bind (wp_if h h1 h0)
/-- a test that leads out, or not -/
theorem wp_out {t : Mir.Tm} {x : Bool} {m : Em} {d : D} (h : t en = .ok (x, en1)) (h1 : x = true → m en1 = .ok (d, en2) ∧ Q (.rt d) en2) (h0 : x = false → Wp (c en1) Q) : Wp (mSeq (mIf t (mRet m) mNext) c en) Q := by
  refine wp_ifs h (fun e => ?_) (fun e => ⟨_, _, rfl, h0 e⟩)
  obtain ⟨e1, e2⟩ := h1 e
  exact ⟨.rt d, en2, by rw [mRet_ap, e1]; rfl, e2⟩
theorem wp_no {t : Mir.Tm} {a : Sm} (h : t en = .ok (false, en1)) (k : Wp (c en1) Q) : Wp (mSeq (mIf t a mNext) c en) Q := wp_ifs h (fun e => by cases e) (fun _ => ⟨_, _, rfl, k⟩)
theorem wp_ret {m : Em} {d : D} (h : m en = .ok (d, en1)) (q : Q (.rt d) en1) : Wp (mRet m en) Q := ⟨.rt d, en1, by rw [mRet_ap, h]; rfl, q⟩
theorem wp_next (q : Q .nx en) : Wp (mNext en) Q := ⟨_, _, rfl, q⟩
theorem wp_asg {m : Em} {d : D} {i : Nat} (h : m en = .ok (d, en1)) (q : Q .nx (en1.set i (.dat d))) : Wp (mAsg (gmName i) m en) Q := ⟨.nx, _, by rw [mAsg_ap, h]; rfl, q⟩
theorem wp_asgs {m : Em} {d : D} {i : Nat} (h : m en = .ok (d, en1)) (q : Wp (b (en1.set i (.dat d))) Q) : Wp (mSeq (mAsg (gmName i) m) b en) Q := wp_seq (by rw [mAsg_ap, h]; rfl) q
theorem wp_lap {N : En → Prop} (h : b en = .ok (.nx, en1)) (q : N en1) : Wp (b en) (Lap N Q) := ⟨_, _, h, q⟩
theorem wp_forGo {W : Type} {gm : Gm} (I : Nat → W → Prop) (E : Nat → W → En) : ∀ (ds : List D) (k : Nat) (w : W), I k w →
    (∀ i d w, ds[i]? = some d → I (k + i) w → ∃ en1, gm d (E (k + i) w) = .ok en1 ∧ Wp (b en1) (Lap (fun en => ∃ w', en = E (k + i + 1) w' ∧ I (k + i + 1) w') Q)) →
    (∀ w, I (k + ds.length) w → Q .nx (E (k + ds.length) w)) → Wp (forGo gm b ds (E k w)) Q
  | [], k, w, h0, _, hf => ⟨.nx, _, rfl, hf w h0⟩
  | d :: ds, k, w, h0, hs, hf => by
    obtain ⟨en1, e1, fl, en2, e2, q⟩ := hs 0 d w rfl h0
    unfold forGo
    rw [show E k w = E (k + 0) w from rfl, e1, calm_ok, bind_ok, e2, bind_ok]
    have go : ∀ w', I (k + 1) w' → Wp (forGo gm b ds (E (k + 1) w')) Q := fun w' hi => wp_forGo I E ds (k + 1) w' hi (fun i d' w'' hd hi' => by
      have := hs (i + 1) d' w'' (by simpa using hd) (by rw [show k + (i + 1) = k + 1 + i by omega]; exact hi')
      rw [show k + (i + 1) = k + 1 + i by omega] at this
      exact this) (fun w'' hi' => by
      have e : k + 1 + ds.length = k + (ds.length + 1) := by omega
      rw [e] at hi' ⊢
      exact hf w'' hi')
    cases fl with
    | nx => obtain ⟨w', rfl, hi⟩ := q; exact go w' hi
    | ct => obtain ⟨w', rfl, hi⟩ := q; exact go w' hi
    | bk => exact ⟨_, _, rfl, q⟩
    | rt r => exact ⟨_, _, rfl, q⟩
theorem wp_rng {W : Type} {av : Am} {j n : Nat} (I : Nat → W → Prop) (E : Nat → W → En) (w0 : W) (h0 : I 0 w0) (ha : av en = .ok ([iD n], E 0 w0)) (hn : n ≤ 100000)
    (hs : ∀ i w, i < n → I i w → Wp (b ((E i w).set j (.dat (iD i)))) (Lap (fun en => ∃ w', en = E (i + 1) w' ∧ I (i + 1) w') Q)) (hf : ∀ w, I n w → Q .nx (E n w)) : Wp (mFor (imRng rng1 av) (gmName j) b en) Q := by
  rw [mFor_ap, imRng_ap, ha, bind_ok, rng1_nat hn, bind_ok, bind_ok]
  have e : ((List.range n).map fun i : Nat => PyData.int (i : Nat)).length = n := by rw [List.length_map, List.length_range]
  refine wp_forGo I E _ 0 w0 h0 (fun i d w hd hi => ?_) (fun w hi => by rw [e, Nat.zero_add] at hi ⊢; exact hf w hi)
  rw [List.getElem?_map] at hd
  by_cases q : i < n
  · rw [List.getElem?_range q] at hd
    cases hd
    rw [Nat.zero_add] at hi ⊢
    exact ⟨_, rfl, hs i w q hi⟩
  · rw [List.getElem?_eq_none (by rw [List.length_range]; omega)] at hd
    cases hd
/-- .. over what some iterator gives -/
theorem wp_iter {W A : Type} {im : Im} {gm : Gm} (enc : A → D) (xs : List A) (I : Nat → W → Prop) (E : Nat → W → En) (w0 : W) (h0 : I 0 w0) (ha : im en = .ok (xs.map enc, E 0 w0))
    (hs : ∀ i w (h : i < xs.length), I i w → ∃ en1, gm (enc xs[i]) (E i w) = .ok en1 ∧ Wp (b en1) (Lap (fun en => ∃ w', en = E (i + 1) w' ∧ I (i + 1) w') Q)) (hf : ∀ w, I xs.length w → Q .nx (E xs.length w)) : Wp (mFor im gm b en) Q := by
  rw [mFor_ap, ha, bind_ok]
  refine wp_forGo I E _ 0 w0 h0 (fun i d w e hi => ?_) (fun w hi => by rw [List.length_map, Nat.zero_add] at hi ⊢; exact hf w hi)
  rw [List.getElem?_map] at e
  by_cases q : i < xs.length
  · rw [List.getElem?_eq_getElem q] at e
    cases e
    rw [Nat.zero_add] at hi ⊢
    exact hs i w q hi
  · rw [List.getElem?_eq_none (by omega)] at e
    cases e
theorem fn_wp {m : Sm} {n k : Nat} {ds : List D} {d : D} (hl : ds.length = k) (h : Wp (m (enOf n ds)) (Is d)) : fnM n k m ds = .ok d := by
  obtain ⟨fl, en', e, q⟩ := h
  unfold fnM
  rw [if_pos hl, e]
  cases fl with
  | nx => have q : d = .none := q; subst q; rfl
  | rt r => have q : r = d := q; subst q; rfl
  | bk => exact False.elim q
  | ct => exact False.elim q
theorem fn_err {m : Sm} {n k : Nat} {ds : List D} {c : Str} {fs : List (Str × D)} (hl : ds.length = k) (h : m (enOf n ds) = .err c fs) : fnM n k m ds = .err c fs := by
  unfold fnM
  rw [if_pos hl, h]
  rfl
end
section
variable {en : En} {j : Nat} {m : Em}
/-- over what an iterator gives -/
theorem lc_map {A : Type} {im : Im} {enc : A → D} {xs : List A} {f : A → D} (ha : im en = .ok (xs.map enc, en)) (h : ∀ x ∈ xs, m (en.set j (.dat (enc x))) = .ok (f x, en.set j (.dat (enc x)))) (hn : xs.length ≤ 100000) (hj : j < en.length) (ho : noOwn en [j] = true) :
    lLc im [j] (gmName j) tmYes m en = .ok (xs.map f, en) := by
  unfold lLc
  have e : wipeE en [j] = en.set j .un := rfl
  have key : ∀ xs : List A, (∀ x ∈ xs, m (en.set j (.dat (enc x))) = .ok (f x, en.set j (.dat (enc x)))) → lcGo [j] (gmName j) tmYes m (xs.map enc) (en.set j .un) = .ok (xs.map f, en.set j .un) := by
    intro xs
    induction xs with
    | nil => intro _; rfl
    | cons x xs ih =>
      intro h
      have e0 : (en.set j .un).set j (.dat (enc x)) = en.set j (.dat (enc x)) := List.set_set ..
      have e1 : wipeE (en.set j (.dat (enc x))) [j] = en.set j .un := List.set_set ..
      rw [List.map_cons]
      unfold lcGo
      rw [gmName_ap, calm_ok, bind_ok, e0, tmYes_ap, calm_ok, bind_ok, if_pos rfl, h x (List.mem_cons_self ..), calm_ok, bind_ok, e1, ih fun y hy => h y (List.mem_cons_of_mem _ hy), bind_ok, List.map_cons]
  rw [ha, bind_ok, if_pos ⟨ho, by rw [List.length_map]; exact hn⟩, e, key xs h, calm_ok, bind_ok]
  have e2 : restE en (en.set j .un) [j] = (en.set j .un).set j (en.getD j .un) := rfl
  rw [e2, List.set_set, set_self hj]
end
section
variable {en : En} {i : Nat}
theorem ownL_ap : ownL en i = match en[i]? with
  | some (.own (.lst ds)) => some ds
  | _ => none := rfl
theorem mApp_ap {m : Em} : mApp i m en = match ownL en i with
  | none => .stk
  | some _ => (m en).bind fun p => match ownL p.2 i with
    | none => .stk
    | some ds => if ds.length < big then .ok (.nx, p.2.set i (.own (.lst (ds ++ [p.1])))) else .stk := rfl
theorem mSetO_ap {ix m : Em} : mSetO i ix m en = (m en).bind fun p => match ownL p.2 i with
  | none => .stk
  | some _ => (ix p.2).bind fun q => match ownL q.2 i with
    | none => .stk
    | some ds => match ixI ds.length q.1 with
      | none => .stk
      | some j => .ok (.nx, q.2.set i (.own (.lst (ds.set j p.1)))) := rfl
theorem eBLen_ap : eBLen i en = match ownL en i with
  | some ds => .ok (.int ds.length, en)
  | none => .stk := rfl
theorem eBIx_ap {m : Em} : eBIx i m en = match ownL en i with
  | none => .stk
  | some _ => (m en).bind fun p => match ownL p.2 i, p.1 with
    | some ds, .int k => match atI ds k with
      | some d => .ok (d, p.2)
      | none => .stk
    | _, _ => .stk := rfl
theorem ixI_N {n k : Nat} (h : k < n) : ixI n (iD k) = some k := by
  show ixN n (k : Int) = some k
  unfold ixN
  rw [if_pos (by omega), if_pos (by omega)]
  rfl
/-- at a place, 0 beyond -/
theorem ix_tupA (xs : List Nat) (i : Nat) (h : i < xs.length) : fIx (tupN xs) (iD i) = .ok (iD (xs.getD i 0)) := by
  rw [fIx_tupN xs i h, List.getD_eq_getElem?_getD, List.getElem?_eq_getElem h]
  rfl
end
end Mir
end
section
set_option Elab.async false
set_option linter.all false
set_option maxRecDepth 100000
set_option maxHeartbeats 4000000
namespace Mir
open PySem PySem.Spec PyProof.Rows L2
theorem atI_map {A : Type} (f : A → D) (l : List A) (i : Nat) (h : i < l.length) : atI (l.map f) (i : Int) = some (f l[i]) := by
  unfold atI ixN
  rw [if_pos (by omega), if_pos (by rw [List.length_map]; omega)]
  show (l.map f)[((i : Int)).toNat]? = _
  rw [Int.toNat_natCast, List.getElem?_map, List.getElem?_eq_getElem h]
  rfl
end Mir
end
section
set_option Elab.async false
set_option linter.all false
set_option maxRecDepth 100000
set_option maxHeartbeats 4000000
namespace Mir
open PySem PySem.Spec PyProof.Rows L2
structure Rp (n e : Nat) (d : D) : Prop where
  sh : d.showable = true
  lay : d.canLay0 = true
  dep : d.depth ≤ e
  len : d.shown.length ≤ n
  ok : PyData.strOk d.shown = true
theorem Rp.mono {n e n' e' : Nat} {d : D} (h : Rp n e d) (hn : n ≤ n') (he : e ≤ e') : Rp n' e' d := ⟨h.sh, h.lay, Nat.le_trans h.dep he, Nat.le_trans h.len hn, h.ok⟩
end Mir
end
section
set_option Elab.async false
set_option linter.all false
set_option maxRecDepth 100000
set_option maxHeartbeats 4000000
namespace Mir
open PySem PySem.Spec PyProof.Rows L2
variable {en en1 : En} {i : Nat}
theorem pinAt_ap : pinAt en i = match en[i]? with
  | some (.own (.src c t)) => some (.src c t)
  | some (.own (.dl ds)) => some (.dl ds)
  | some (.own (.tl ds)) => some (.tl ds)
  | _ => none := rfl
theorem eCallD_ap {m : MO → List D → Rs (D × MO)} {a : Am} : eCallD m i a en = match pinAt en i with
  | none => .stk
  | some _ => (a en).bind fun p => match pinAt p.2 i with
    | none => .stk
    | some mo => (m mo p.1).calm.bind fun q => .ok (q.1, p.2.set i (.own q.2)) := rfl
theorem lCall_ap {m : List D → Rs (List D)} {a : Am} : lCall m a en = (a en).bind fun p => (m p.1).calm.bind fun zs => .ok (zs, p.2) := rfl
theorem fnD_ex {m : Sm} {n k : Nat} {mo : MO} {ds : List D} {P : D → MO → Prop} (hl : ds.length + 1 = k) (h : Wp (m (enOfS n mo ds)) (fun fl en => ∃ d mo', fl = .rt d ∧ pinAt en 0 = some mo' ∧ P d mo')) : ∃ d mo', fnD n k m mo ds = .ok (d, mo') ∧ P d mo' := by
  obtain ⟨fl, en', e, d, mo', rfl, hs, q⟩ := h
  refine ⟨d, mo', ?_, q⟩
  unfold fnD
  rw [if_pos hl, e]
  show (match pinAt en' 0 with
    | some mo' => Rs.ok (d, mo')
    | none => Rs.stk) = _
  rw [hs]
variable {en2 : En} {x y : Bool}
theorem eAnd_b {a b : Em} (ha : a en = .ok (.bool x, en1)) (hb : x = true → b en1 = .ok (.bool y, en1)) : eAnd a b en = .ok (.bool (x && y), en1) := by
  rw [eAnd_ap, ha, bind_ok]
  cases x with
  | true => exact hb rfl
  | false => rfl
theorem eOr_b {a b : Em} (ha : a en = .ok (.bool x, en1)) (hb : x = false → b en1 = .ok (.bool y, en1)) : eOr a b en = .ok (.bool (x || y), en1) := by
  rw [eOr_ap, ha, bind_ok]
  cases x with
  | true => rfl
  | false => exact hb rfl
theorem tmOr_b {a b : Mir.Tm} (ha : a en = .ok (x, en1)) (hb : x = false → b en1 = .ok (y, en1)) : tmOr a b en = .ok (x || y, en1) := by
  rw [tmOr_ap, ha, bind_ok]
  cases x with
  | true => rfl
  | false => exact hb rfl
theorem tmAnd_b {a b : Mir.Tm} (ha : a en = .ok (x, en1)) (hb : x = true → b en1 = .ok (y, en1)) : tmAnd a b en = .ok (x && y, en1) := by
  rw [tmAnd_ap, ha, bind_ok]
  cases x with
  | true => exact hb rfl
  | false => rfl
theorem tmNot_b {a : Mir.Tm} (ha : a en = .ok (x, en1)) : tmNot a en = .ok (!x, en1) := by rw [tmNot_ap, ha, bind_ok]
theorem tmTru_b {a : Em} (ha : a en = .ok (.bool x, en1)) : tmTru a en = .ok (x, en1) := by rw [tmTru_ap, ha, bind_ok]; rfl
theorem fAll_map {A : Type} (l : List A) (p : A → Bool) : fAll [.list (l.map fun a => PyData.bool (p a))] = .ok (.bool (l.all p)) := by
  have e : l.map (fun a => PyData.bool (p a)) = (l.map p).map PyData.bool := by rw [List.map_map]; rfl
  rw [e]
  show (match Mir.boolsOf ((l.map p).map PyData.bool) with
    | some bs => Rs.ok (PyData.bool (bs.all id))
    | none => .stk) = _
  rw [Mir.boolsOf_map]
  show Rs.ok (PyData.bool ((l.map p).all id)) = _
  rw [List.all_map]; rfl
/-- all([.. for x in ..]) -/
theorem all_ok {A : Type} {j : Nat} {im : Im} {m : Em} {enc : A → D} {xs : List A} {p : A → Bool} (ha : im en = .ok (xs.map enc, en)) (h : ∀ x ∈ xs, m (en.set j (.dat (enc x))) = .ok (.bool (p x), en.set j (.dat (enc x)))) (hn : xs.length ≤ 100000) (hj : j < en.length) (ho : noOwn en [j] = true) :
    eN fAll (aCons (eL (lLc im [j] (gmName j) tmYes m)) aNil) en = .ok (.bool (xs.all p), en) := by
  rw [eN_ap, aCons_ap, eL_ap, lc_map (f := fun x => PyData.bool (p x)) ha h hn hj ho, bind_ok, bind_ok, aNil_ap, bind_ok, bind_ok]
  dsimp only
  rw [fAll_map, calm_ok, bind_ok]
theorem call_b {m : List D → Rs D} {a : Am} {ds : List D} {d : D} (ha : a en = .ok (ds, en1)) (hm : m ds = .ok d) : eCall m a en = .ok (d, en1) := by
  rw [eCall_ap, ha, bind_ok]
  dsimp only
  rw [hm, bind_ok]
/-- a def that hands back an expression -/
theorem fn_ret {e : Em} {n k : Nat} {ds : List D} {d : D} {en' : En} (hl : ds.length = k) (h : e (enOf n ds) = .ok (d, en')) : fnM n k (mRet e) ds = .ok d := fn_wp hl (wp_ret h rfl)
end Mir
end
section
set_option Elab.async false
set_option linter.all false
set_option maxRecDepth 100000
set_option maxHeartbeats 4000000
namespace Mir
open PySem PySem.Spec PyProof.Rows L2
theorem atI_D (ds : List D) (k : Nat) (h : k < ds.length) : atI ds (k : Int) = some (ds.getD k .none) := by
  have h' : ixN ds.length (k : Int) = some k := ixI_N h
  unfold atI
  rw [h', List.getD_eq_getElem?_getD, List.getElem?_eq_getElem h]
  exact List.getElem?_eq_getElem h
theorem ix_D (ds : List D) (k : Nat) (h : k < ds.length) : fIx (.tuple ds) (iD k) = .ok (ds.getD k .none) := by
  show (match atI ds (k : Int) with
    | some z => Rs.ok z
    | none => .stk) = _
  rw [atI_D ds k h]
theorem tupR1_ok {m : Em} {en en1 : En} {n : Nat} (h : m en = .ok (iD n, en1)) (hn : n ≤ 1000000) : eTupR1 m en = .ok (tupN (List.range n), en1) := by
  unfold eTupR1
  rw [h, bind_ok]
  have h1 : okRg 0 (n : Int) = true := by
    unfold okRg
    simp only [Bool.and_eq_true, decide_eq_true_eq]
    omega
  show (if okRg 0 (n : Int) = true then Rs.ok (PyData.tuple (rgD 0 (n : Int)), en1) else .stk) = _
  rw [if_pos h1]
  have : rgD 0 (n : Int) = (List.range n).map iD := by
    unfold rgD
    rw [show ((n : Int) - 0).toNat = n by omega]
    refine List.map_congr_left fun i _ => ?_
    unfold iD
    rw [Int.zero_add]
  rw [this]; rfl
end Mir
end
section
set_option Elab.async false
set_option linter.all false
set_option maxRecDepth 100000
set_option maxHeartbeats 4000000
namespace Mir
open PySem PySem.Spec PyProof.Rows L2
end Mir
end
section
set_option Elab.async false
set_option linter.all false
set_option maxRecDepth 100000
set_option maxHeartbeats 4000000
namespace Mir
open PySem PySem.Spec PyProof.Rows L2
end Mir
end
section
set_option Elab.async false
set_option linter.all false
set_option maxRecDepth 100000
set_option maxHeartbeats 4000000
namespace Mir
open PySem PySem.Spec PyProof.Rows L2
end Mir
end
section
set_option Elab.async false
set_option linter.all false
set_option maxRecDepth 100000
set_option maxHeartbeats 4000000
namespace Mir
open PySem PySem.Spec PyProof.Rows L2
section
variable {Q : Fl → En → Prop} {en en1 en2 : En}
/-- what a turn of a seeking loop does -/
def Sk (I : En → Prop) (r : Option D) : Fl → En → Prop := fun fl en => I en ∧ match r with
  | some d => fl = .rt d
  | none => fl = .nx ∨ fl = .ct
theorem wp_seek {A : Type} {gm : Gm} {b : Sm} (enc : A → D) (I : En → Prop) (r : A → Option D) : ∀ (xs : List A) (en : En), I en →
    (∀ x ∈ xs, ∀ en, I en → ∃ en1, gm (enc x) en = .ok en1 ∧ Wp (b en1) (Sk I (r x))) →
    (∀ en, I en → match xs.findSome? r with
      | some d => Q (.rt d) en
      | none => Q .nx en) → Wp (forGo gm b (xs.map enc) en) Q
  | [], en, h, _, hf => ⟨.nx, en, rfl, hf en h⟩
  | x :: xs, en, h, hs, hf => by
    obtain ⟨en1, e1, fl, en2, e2, h2, q⟩ := hs x List.mem_cons_self en h
    show Wp ((gm (enc x) en).calm.bind fun en1 => (b en1).bind fun p => match p.1 with
      | .nx => forGo gm b (xs.map enc) p.2
      | .ct => forGo gm b (xs.map enc) p.2
      | .bk => .ok (.nx, p.2)
      | .rt d => .ok (.rt d, p.2)) Q
    rw [e1, calm_ok, bind_ok, e2, bind_ok]
    cases hr : r x with
    | some d =>
      rw [hr] at q
      have q' : fl = .rt d := q
      subst q'
      refine ⟨.rt d, en2, rfl, ?_⟩
      have := hf en2 h2
      rw [List.findSome?_cons, hr] at this
      exact this
    | none =>
      rw [hr] at q
      have go : Wp (forGo gm b (xs.map enc) en2) Q := wp_seek enc I r xs en2 h2 (fun y hy => hs y (List.mem_cons_of_mem _ hy)) fun en h => by
        have := hf en h
        rw [List.findSome?_cons, hr] at this
        exact this
      rcases q with q | q
      · subst q; exact go
      · subst q; exact go
theorem wp_seekI {A : Type} {im : Im} {gm : Gm} {b : Sm} (enc : A → D) (I : En → Prop) (r : A → Option D) (xs : List A) (ha : im en = .ok (xs.map enc, en1)) (h : I en1)
    (hs : ∀ x ∈ xs, ∀ en, I en → ∃ en1, gm (enc x) en = .ok en1 ∧ Wp (b en1) (Sk I (r x)))
    (hf : ∀ en, I en → match xs.findSome? r with
      | some d => Q (.rt d) en
      | none => Q .nx en) : Wp (mFor im gm b en) Q := by
  rw [mFor_ap, ha, bind_ok]
  exact wp_seek enc I r xs en1 h hs hf
end
end Mir
namespace Mir
open PySem PySem.Spec PyProof.Rows L2
end Mir
namespace Mir
open PySem PySem.Spec PyProof.Rows L2
section
variable {Q : Fl → En → Prop} {en en1 : En} {b : Sm}
theorem wp_rngI {av : Am} {j n : Nat} (I : Nat → En → Prop) (ha : av en = .ok ([iD n], en1)) (h0 : I 0 en1) (hn : n ≤ 100000)
    (hs : ∀ i en, i < n → I i en → Wp (b (en.set j (.dat (iD i)))) (Lap (I (i + 1)) Q)) (hf : ∀ en, I n en → Q .nx en) : Wp (mFor (imRng rng1 av) (gmName j) b en) Q :=
  wp_rng (W := En) (fun i w => I i w) (fun _ w => w) en1 h0 ha hn (fun i w hi h => wp_mono (hs i w hi h) fun fl en q => by
    cases fl with
    | nx => exact ⟨en, rfl, q⟩
    | ct => exact ⟨en, rfl, q⟩
    | bk => exact q
    | rt d => exact q) fun w h => hf w h
theorem wp_iterI {A : Type} {im : Im} {gm : Gm} (enc : A → D) (xs : List A) (I : Nat → En → Prop) (ha : im en = .ok (xs.map enc, en1)) (h0 : I 0 en1)
    (hs : ∀ i en (h : i < xs.length), I i en → ∃ en2, gm (enc xs[i]) en = .ok en2 ∧ Wp (b en2) (Lap (I (i + 1)) Q)) (hf : ∀ en, I xs.length en → Q .nx en) : Wp (mFor im gm b en) Q :=
  wp_iter (W := En) enc xs (fun i w => I i w) (fun _ w => w) en1 h0 ha (fun i w hi h => by
    obtain ⟨en2, e, q⟩ := hs i w hi h
    exact ⟨en2, e, wp_mono q fun fl en q => by
      cases fl with
      | nx => exact ⟨en, rfl, q⟩
      | ct => exact ⟨en, rfl, q⟩
      | bk => exact q
      | rt d => exact q⟩) fun w h => hf w h
end
theorem eFrz_ap {i : Nat} {en : En} : eFrz i en = match en[i]? with
  | some (.dat d) => .ok (d, en)
  | some (.own (.ll ess)) => .ok (.list (ess.map PyData.list), en.set i (.dat (.list (ess.map PyData.list))))
  | _ => .stk := rfl
end Mir
end
section
set_option Elab.async false
set_option linter.all false
set_option maxRecDepth 100000
set_option maxHeartbeats 4000000
namespace Mir
open PySem PySem.Spec PyProof.Rows L2
section
variable {en : En}
theorem tcons {m : Em} {a : Am} {d : D} {ds : List D} (h1 : m en = .ok (d, en)) (h2 : a en = .ok (ds, en)) : aCons m a en = .ok (d :: ds, en) := by rw [aCons_ap, h1, bind_ok, h2, bind_ok]
theorem tnil : aNil en = .ok ([], en) := rfl
theorem tone {m : Em} {d : D} (h1 : m en = .ok (d, en)) : aCons m aNil en = .ok ([d], en) := tcons h1 tnil
theorem tp_of {a : Am} {ds : List D} (h : a en = .ok (ds, en)) (hl : ds.length ≤ 100000 := by exact Nat.le_of_ble_eq_true rfl) : eTup a en = .ok (.tuple ds, en) := by
  rw [eTup_ap, h, bind_ok]
  exact if_pos hl
theorem e2_of {f : D → D → Rs D} {a b : Em} {d e z : D} (h1 : a en = .ok (d, en)) (h2 : b en = .ok (e, en)) (h : f d e = .ok z) : e2 f a b en = .ok (z, en) := by
  rw [e2_ap, h1, bind_ok, h2, bind_ok]
  dsimp only
  rw [h, calm_ok, bind_ok]
theorem eN_of {f : List D → Rs D} {a : Am} {ds : List D} {z : D} (h : a en = .ok (ds, en)) (hf : f ds = .ok z) : eN f a en = .ok (z, en) := by
  rw [eN_ap, h, bind_ok]
  dsimp only
  rw [hf, calm_ok, bind_ok]
theorem en1_of {f : List D → Rs D} {m : Em} {d z : D} (h : m en = .ok (d, en)) (hf : f [d] = .ok z) : eN f (aCons m aNil) en = .ok (z, en) := eN_of (tone h) hf
theorem lN_of {f : List D → Rs (List D)} {a : Am} {ds zs : List D} (h : a en = .ok (ds, en)) (hf : f ds = .ok zs) : eL (lN f a) en = .ok (.list zs, en) := by
  rw [eL_ap, lN_ap, h, bind_ok]
  dsimp only
  rw [hf, calm_ok, bind_ok, bind_ok]
theorem b_of {a : Em} {b : Bool} (h : a en = .ok (.bool b, en)) : tmB a en = .ok (b, en) := by rw [tmB_ap, h, bind_ok]
theorem tr_of {a : Em} {b : Bool} (h : a en = .ok (.bool b, en)) : tmTru a en = .ok (b, en) := tmTru_b h
theorem dr_of {m : Em} {d : D} (h : m en = .ok (d, en)) : mDrop m en = .ok (.nx, en) := by rw [mDrop_ap, h, bind_ok]
end
/-- a comprehension with any target -/
theorem lc_mapG {A : Type} {en : En} {vs : List Nat} {im : Im} {gm : Gm} {m : Em} {enc : A → D} {xs : List A} {f : A → D} (E : A → En) (ha : im en = .ok (xs.map enc, en)) (hg : ∀ x ∈ xs, gm (enc x) (wipeE en vs) = .ok (E x)) (h : ∀ x ∈ xs, m (E x) = .ok (f x, E x)) (hw : ∀ x ∈ xs, wipeE (E x) vs = wipeE en vs)
    (hr : restE en (wipeE en vs) vs = en) (hn : xs.length ≤ 100000) (ho : noOwn en vs = true) : lLc im vs gm tmYes m en = .ok (xs.map f, en) := by
  unfold lLc
  have key : ∀ xs : List A, (∀ x ∈ xs, gm (enc x) (wipeE en vs) = .ok (E x)) → (∀ x ∈ xs, m (E x) = .ok (f x, E x)) → (∀ x ∈ xs, wipeE (E x) vs = wipeE en vs) → lcGo vs gm tmYes m (xs.map enc) (wipeE en vs) = .ok (xs.map f, wipeE en vs) := by
    intro xs
    induction xs with
    | nil => intro _ _ _; rfl
    | cons x xs ih =>
      intro hg h hw
      rw [List.map_cons]
      unfold lcGo
      rw [hg x (List.mem_cons_self ..), calm_ok, bind_ok, tmYes_ap, calm_ok, bind_ok, if_pos rfl, h x (List.mem_cons_self ..), calm_ok, bind_ok, hw x (List.mem_cons_self ..), ih (fun y hy => hg y (List.mem_cons_of_mem _ hy)) (fun y hy => h y (List.mem_cons_of_mem _ hy)) (fun y hy => hw y (List.mem_cons_of_mem _ hy)), bind_ok, List.map_cons]
  rw [ha, bind_ok, if_pos ⟨ho, by rw [List.length_map]; exact hn⟩, key xs hg h hw, calm_ok, bind_ok]
  dsimp only
  rw [hr]
end Mir
end
section
set_option Elab.async false
set_option linter.all false
set_option maxRecDepth 100000
set_option maxHeartbeats 4000000
namespace Mir
open PySem PySem.Spec PyProof.Rows L2
theorem lc_run {W A B : Type} {j : Nat} {im : Im} {m : Em} {enc : A → D} {dec : B → D} {xs : List A} {en : En} (E : W → En) (I : Nat → W → Prop) (R : B → Prop) (w0 : W) (h0 : I 0 w0) (ha : im en = .ok (xs.map enc, E w0)) (hu : ∀ w, (E w).set j .un = E w)
    (hs : ∀ i w (h : i < xs.length), I i w → ∃ b w', m ((E w).set j (.dat (enc xs[i]))) = .ok (dec b, (E w').set j (.dat (enc xs[i]))) ∧ R b ∧ I (i + 1) w') (hn : xs.length ≤ 100000) (ho : noOwn (E w0) [j] = true) (hg : (E w0).getD j .un = .un) :
    ∃ (bs : List B) (w' : W), lLc im [j] (gmName j) tmYes m en = .ok (bs.map dec, E w') ∧ bs.length = xs.length ∧ (∀ b ∈ bs, R b) ∧ I xs.length w' := by
  have key : ∀ (ys : List A) (k : Nat) (w : W), I k w → (∀ i w (h : i < ys.length), I (k + i) w → ∃ b w', m ((E w).set j (.dat (enc ys[i]))) = .ok (dec b, (E w').set j (.dat (enc ys[i]))) ∧ R b ∧ I (k + i + 1) w') →
      ∃ (bs : List B) (w' : W), lcGo [j] (gmName j) tmYes m (ys.map enc) (E w) = .ok (bs.map dec, E w') ∧ bs.length = ys.length ∧ (∀ b ∈ bs, R b) ∧ I (k + ys.length) w' := by
    intro ys
    induction ys with
    | nil => exact fun k w hi _ => ⟨[], w, rfl, rfl, fun b hb => (by cases hb), hi⟩
    | cons y ys ih =>
      intro k w hi hs
      obtain ⟨b, w1, e1, rb, i1⟩ := hs 0 w (by rw [List.length_cons]; omega) hi
      obtain ⟨bs, w2, e2, l2, r2, i2⟩ := ih (k + 1) w1 i1 fun i w h hi => by
        have := hs (i + 1) w (by rw [List.length_cons]; omega) (by rw [show k + (i + 1) = k + 1 + i by omega]; exact hi)
        rw [show k + (i + 1) + 1 = k + 1 + i + 1 by omega] at this
        exact this
      refine ⟨b :: bs, w2, ?_, by rw [List.length_cons, List.length_cons, l2], fun x hx => ?_, by rw [List.length_cons, show k + (ys.length + 1) = k + 1 + ys.length by omega]; exact i2⟩
      · have ew : wipeE ((E w1).set j (.dat (enc y))) [j] = E w1 := by
          show ((E w1).set j (.dat (enc y))).set j .un = E w1
          rw [List.set_set]; exact hu w1
        rw [List.map_cons]
        unfold lcGo
        rw [gmName_ap, calm_ok, bind_ok, tmYes_ap, calm_ok, bind_ok, if_pos rfl]
        have e1' : m ((E w).set j (.dat (enc y))) = .ok (dec b, (E w1).set j (.dat (enc y))) := e1
        rw [e1', calm_ok, bind_ok, ew, e2]
        rfl
      · rcases List.mem_cons.mp hx with rfl | hx
        · exact rb
        · exact r2 x hx
  obtain ⟨bs, w', e, l, r, i⟩ := key xs 0 w0 h0 fun i w h hi => by
    rw [Nat.zero_add] at hi ⊢
    exact hs i w h hi
  refine ⟨bs, w', ?_, l, r, by rw [Nat.zero_add] at i; exact i⟩
  unfold lLc
  have ew : wipeE (E w0) [j] = E w0 := hu w0
  rw [ha, bind_ok, if_pos ⟨ho, by rw [List.length_map]; exact hn⟩, ew, e, calm_ok, bind_ok]
  show Rs.ok (bs.map dec, (E w').set j ((E w0).getD j .un)) = _
  rw [hg, hu]
/-- .. whose tests change it -/
theorem lc_runT {W A : Type} {j : Nat} {im : Im} {t : Mir.Tm} {m : Em} {enc : A → D} {xs : List A} {en : En} (E : W → En) (I : Nat → List A → W → Prop) (w0 : W) (h0 : I 0 [] w0) (ha : im en = .ok (xs.map enc, E w0)) (hu : ∀ w, (E w).set j .un = E w)
    (hs : ∀ i ys w (h : i < xs.length), I i ys w → ∃ b w', t ((E w).set j (.dat (enc xs[i]))) = .ok (b, (E w').set j (.dat (enc xs[i]))) ∧ m ((E w').set j (.dat (enc xs[i]))) = .ok (enc xs[i], (E w').set j (.dat (enc xs[i]))) ∧ I (i + 1) (if b = true then ys ++ [xs[i]] else ys) w')
    (hn : xs.length ≤ 100000) (ho : noOwn (E w0) [j] = true) (hg : (E w0).getD j .un = .un) :
    ∃ (ys : List A) (w' : W), lLc im [j] (gmName j) t m en = .ok (ys.map enc, E w') ∧ I xs.length ys w' := by
  have key : ∀ (zs : List A) (k : Nat) (ys : List A) (w : W), I k ys w → (∀ i us w (h : i < zs.length), I (k + i) us w → ∃ b w', t ((E w).set j (.dat (enc zs[i]))) = .ok (b, (E w').set j (.dat (enc zs[i]))) ∧ m ((E w').set j (.dat (enc zs[i]))) = .ok (enc zs[i], (E w').set j (.dat (enc zs[i]))) ∧ I (k + i + 1) (if b = true then us ++ [zs[i]] else us) w') →
      ∃ (us : List A) (w' : W), lcGo [j] (gmName j) t m (zs.map enc) (E w) = .ok (us.map enc, E w') ∧ I (k + zs.length) (ys ++ us) w' := by
    intro zs
    induction zs with
    | nil => exact fun k ys w hi _ => ⟨[], w, rfl, by rw [List.append_nil]; exact hi⟩
    | cons z zs ih =>
      intro k ys w hi hs
      obtain ⟨b, w1, e1, e2, i1⟩ := hs 0 ys w (by rw [List.length_cons]; omega) hi
      have e1 : t ((E w).set j (.dat (enc z))) = .ok (b, (E w1).set j (.dat (enc z))) := e1
      have e2 : m ((E w1).set j (.dat (enc z))) = .ok (enc z, (E w1).set j (.dat (enc z))) := e2
      have i1 : I (k + 1) (if b = true then ys ++ [z] else ys) w1 := i1
      obtain ⟨us, w2, e3, i2⟩ := ih (k + 1) _ w1 i1 fun i us w h hi => by
        have := hs (i + 1) us w (by rw [List.length_cons]; omega) (by rw [show k + (i + 1) = k + 1 + i by omega]; exact hi)
        rw [show k + (i + 1) + 1 = k + 1 + i + 1 by omega] at this
        exact this
      have ew : wipeE ((E w1).set j (.dat (enc z))) [j] = E w1 := by
        show ((E w1).set j (.dat (enc z))).set j .un = E w1
        rw [List.set_set]; exact hu w1
      rw [List.length_cons, show k + (zs.length + 1) = k + 1 + zs.length by omega, List.map_cons]
      cases b with
      | true =>
        refine ⟨z :: us, w2, ?_, ?_⟩
        · unfold lcGo
          rw [gmName_ap, calm_ok, bind_ok, e1, calm_ok, bind_ok, if_pos rfl, e2, calm_ok, bind_ok, ew, e3]
          rfl
        · rw [if_pos rfl, List.append_assoc] at i2
          exact i2
      | false =>
        refine ⟨us, w2, ?_, ?_⟩
        · unfold lcGo
          rw [gmName_ap, calm_ok, bind_ok, e1, calm_ok, bind_ok, if_neg Bool.false_ne_true, ew, e3]
        · rw [if_neg Bool.false_ne_true] at i2
          exact i2
  obtain ⟨us, w', e, i⟩ := key xs 0 [] w0 h0 fun i us w h hi => by
    rw [Nat.zero_add] at hi ⊢
    exact hs i us w h hi
  refine ⟨us, w', ?_, by rw [Nat.zero_add] at i; exact i⟩
  unfold lLc
  have ew : wipeE (E w0) [j] = E w0 := hu w0
  rw [ha, bind_ok, if_pos ⟨ho, by rw [List.length_map]; exact hn⟩, ew, e, calm_ok, bind_ok]
  show Rs.ok (us.map enc, (E w').set j ((E w0).getD j .un)) = _
  rw [hg, hu]
end Mir
end
section
set_option Elab.async false
set_option linter.all false
set_option maxRecDepth 100000
set_option maxHeartbeats 4000000
namespace Mir
open PySem PySem.Spec PyProof.Rows L2
def SrcG (c : List Int) (t : Int) (k : Nat) : Prop := (∀ z ∈ c, z.natAbs.log2 < 3000000) ∧ 0 ≤ t ∧ t ≤ (k : Int) ∧ c.length ≤ 1000
theorem SrcG.mono {c : List Int} {t : Int} {k l : Nat} (g : SrcG c t k) (h : k ≤ l) : SrcG c t l := ⟨g.1, g.2.1, by have := g.2.2.1; omega, g.2.2.2⟩
end Mir
end
section
set_option Elab.async false
set_option linter.all false
set_option maxRecDepth 100000
set_option maxHeartbeats 4000000
namespace Mir
open PySem PySem.Spec PyProof.Rows L2
section
variable {en en1 en2 e1 e2 e3 : En}
def notOwn : SV → Bool
  | .own _ => false
  | _ => true
theorem noOwn_one {j : Nat} {v : SV} (h : en[j]? = some v) (n : notOwn v = true) : noOwn en [j] = true := by
  unfold noOwn
  rw [List.all_cons, h]
  cases v <;> first | rfl | cases n
theorem llAt_ap {x : Nat} : llAt en x = match en[x]? with
  | some (.own (.ll ess)) => some ess
  | _ => none := rfl
theorem llAt_is {x : Nat} {ess : List (List D)} (h : en[x]? = some (.own (.ll ess))) : llAt en x = some ess := by rw [llAt_ap, h]
/-- [a new list for ..], the lists drawn -/
theorem wlc_run {W A : Type} {j : Nat} {im : Im} {m : Am} {enc : A → D} {xs : List A} {en : En} (E : W → En) (R : List D → Prop) (w0 : W) (ha : im en = .ok (xs.map enc, E w0)) (hu : ∀ w, (E w).set j .un = E w)
    (hs : ∀ x ∈ xs, ∀ w, ∃ b w', m ((E w).set j (.dat (enc x))) = .ok (b, (E w').set j (.dat (enc x))) ∧ R b) (hn : xs.length ≤ 100000) (ho : noOwn (E w0) [j] = true) (hg : (E w0).getD j .un = .un) :
    ∃ (bs : List (List D)) (w' : W), wLc im [j] (gmName j) tmYes m en = .ok (.ll bs, E w') ∧ bs.length = xs.length ∧ ∀ b ∈ bs, R b := by
  have key : ∀ (ys : List A) (w : W), (∀ y ∈ ys, y ∈ xs) → ∃ (bs : List (List D)) (w' : W), wlGo [j] (gmName j) tmYes m (ys.map enc) (E w) = .ok (bs, E w') ∧ bs.length = ys.length ∧ ∀ b ∈ bs, R b := by
    intro ys
    induction ys with
    | nil => exact fun w _ => ⟨[], w, rfl, rfl, fun b hb => (by cases hb)⟩
    | cons y ys ih =>
      intro w hy
      obtain ⟨b, w1, e, hb⟩ := hs y (hy y List.mem_cons_self) w
      obtain ⟨bs, w2, e2, hl, hbs⟩ := ih w1 fun z hz => hy z (List.mem_cons_of_mem _ hz)
      refine ⟨b :: bs, w2, ?_, by rw [List.length_cons, List.length_cons, hl], fun c hc => ?_⟩
      · have e3 : wipeE ((E w1).set j (.dat (enc y))) [j] = E w1 := by
          show (((E w1).set j (.dat (enc y))).set j .un) = E w1
          rw [List.set_set, hu]
        rw [List.map_cons]
        unfold wlGo
        rw [gmName_ap, calm_ok, bind_ok, tmYes_ap, calm_ok, bind_ok, if_pos rfl, e, calm_ok, bind_ok, e3, e2, bind_ok]
      · rcases List.mem_cons.mp hc with rfl | hc
        · exact hb
        · exact hbs c hc
  obtain ⟨bs, w', e, hl, hbs⟩ := key xs w0 fun _ h => h
  refine ⟨bs, w', ?_, hl, hbs⟩
  unfold wLc
  have e0 : wipeE (E w0) [j] = E w0 := hu w0
  rw [ha, bind_ok, if_pos ⟨ho, by rw [List.length_map]; exact hn⟩, e0, e, calm_ok, bind_ok]
  show Rs.ok (_, (E w').set j ((E w0).getD j .un)) = _
  rw [hg, hu]
theorem asgW_ok {i : Nat} {m : Wm} {mo : MO} (h : m en = .ok (mo, en1)) (hp : mo.pin = false) : mAsgW i m en = .ok (.nx, en1.set i (.own mo)) := by
  unfold mAsgW
  rw [h, bind_ok, if_pos hp]
/-- the iterator looked at for the first time -/
theorem lc_move {im : Im} {vs : List Nat} {gm : Gm} {t : Mir.Tm} {m : Em} {ds : List D} (h : im en = .ok (ds, en1)) : lLc im vs gm t m en = lLc (fun e => .ok (ds, e)) vs gm t m en1 := by
  unfold lLc
  rw [h]
theorem frz_ll {i : Nat} {ess : List (List D)} (h : en[i]? = some (.own (.ll ess))) : eFrz i en = .ok (.list (ess.map PyData.list), en.set i (.dat (.list (ess.map PyData.list)))) := by
  rw [eFrz_ap, h]
end
end Mir
end
section
set_option Elab.async false
set_option linter.all false
set_option maxRecDepth 100000
set_option maxHeartbeats 4000000
namespace Mir
open PySem PySem.Spec PyProof.Rows L2
/-- a slot that holds plain data or nothing -/
def Pl (v : SV) : Prop := v = .un ∨ ∃ d, v = .dat d
theorem Pl.un : Pl .un := .inl rfl
theorem Pl.dat {d : D} : Pl (.dat d) := .inr ⟨d, rfl⟩
end Mir
end
section
set_option Elab.async false
set_option linter.all false
set_option maxRecDepth 100000
set_option maxHeartbeats 4000000
namespace Mir
open PySem PySem.Spec PyProof.Rows L2
section
variable {en en1 en2 : En} {i j k : Nat}
theorem own_ap {ds : List D} (h : en[i]? = some (.own (.lst ds))) : ownL en i = some ds := by unfold ownL; rw [h]
theorem blen_at {ds : List D} (ho : en[i]? = some (.own (.lst ds))) : eBLen i en = .ok (iD ds.length, en) := by
  rw [eBLen_ap, own_ap ho]
theorem app_at {m : Em} {ds0 ds : List D} {d : D} (h0 : en[i]? = some (.own (.lst ds0))) (hm : m en = .ok (d, en1)) (h1 : en1[i]? = some (.own (.lst ds))) (hl : ds.length < 99999) : mApp i m en = .ok (.nx, en1.set i (.own (.lst (ds ++ [d])))) := by
  rw [mApp_ap, ownL_ap, h0]
  dsimp only
  rw [hm, bind_ok]
  dsimp only
  rw [ownL_ap, h1]
  exact if_pos (Nat.lt_trans hl (by decide))
theorem asg_at {m : Em} {d : D} (h : m en = .ok (d, en1)) : mAsg (gmName i) m en = .ok (.nx, en1.set i (.dat d)) := by rw [mAsg_ap, h]; rfl
theorem asgO_at {m : Am} {ds : List D} (h : m en = .ok (ds, en1)) : mAsgO i m en = .ok (.nx, en1.set i (.own (.lst ds))) := by rw [mAsgO_ap, h]; rfl
theorem e2_at {f : D → D → Rs D} {a b : Em} {d e z : D} (h1 : a en = .ok (d, en1)) (h2 : b en1 = .ok (e, en2)) (h : f d e = .ok z) : e2 f a b en = .ok (z, en2) := by
  rw [e2_ap, h1, bind_ok, h2, bind_ok]
  dsimp only
  rw [h, calm_ok, bind_ok]
theorem eN_at {f : List D → Rs D} {a : Am} {ds : List D} {z : D} (h : a en = .ok (ds, en1)) (hf : f ds = .ok z) : eN f a en = .ok (z, en1) := by
  rw [eN_ap, h, bind_ok]
  dsimp only
  rw [hf, calm_ok, bind_ok]
theorem lst_of {a : Am} {ds : List D} (h : a en = .ok (ds, en)) (hl : ds.length ≤ 100000) : lLst a en = .ok (ds, en) := by
  rw [lLst_ap, h, bind_ok]
  exact if_pos hl
theorem or_no {a b : Mir.Tm} {y : Bool} (h : a en = .ok (false, en)) (hb : b en = .ok (y, en)) : tmOr a b en = .ok (y, en) := tmOr_b (x := false) (y := y) h fun _ => hb
theorem imR_at {av : Am} {q : Nat} (ha : av en = .ok ([iD q], en)) (hq : q ≤ 100000) : imRng rng1 av en = .ok ((List.range q).map iD, en) := by
  rw [imRng_ap, ha, bind_ok]
  have := rng1_nat hq
  dsimp only
  rw [show rng1 [iD q] = rng1 [.int (q : Int)] from rfl, this, bind_ok]
theorem imS_at {m : Em} {d : D} {ds : List D} (h : m en = .ok (d, en1)) (hi : itemsOf d = .ok ds) : imSeq m en = .ok (ds, en1) := by
  rw [imSeq_ap, h, bind_ok, hi]
  rfl
theorem appLL_at {m ix : Em} {ess : List (List D)} {es : List D} {d : D} (h0 : en[i]? = some (.own (.ll ess))) (hx : ix (en.set i .un) = .ok (iD k, en.set i .un)) (he : ess[k]? = some es) (hm : m (en.set i .un) = .ok (d, en.set i .un)) (hl : es.length < 99999) :
    mAppLL i ix m en = .ok (.nx, en.set i (.own (.ll (ess.set k (es ++ [d]))))) := by
  have hk : k < ess.length := (List.getElem?_eq_some_iff.mp he).1
  unfold mAppLL
  rw [llAt_is h0]
  dsimp only
  rw [hx, calm_ok, bind_ok]
  dsimp only
  rw [ixI_N hk]
  dsimp only
  rw [he]
  dsimp only
  rw [hm, calm_ok, bind_ok]
  dsimp only
  rw [if_pos (Nat.lt_trans hl (by decide)), List.set_set]
end
end Mir
end
section
set_option Elab.async false
set_option linter.all false
set_option maxRecDepth 100000
set_option maxHeartbeats 4000000
namespace K24
open PySem PySem.Spec PyProof.Rows L2 Mir
section
variable {xs : List Int} {i j k n m : Nat}
structure Dv where
  (at_ p s : Nat)
def dr (xs : List Int) (v : Dv) : MO := .tl [.list (xs.map PyData.int), iD v.at_, iD v.p, iD v.s]
def Ok (v : Dv) : Prop := v.s < 2 ^ 31
/-- the cells are not too long for a product -/
def Sh (xs : List Int) : Prop := ∀ c ∈ xs, c.natAbs.log2 < 60000000
abbrev dE (xs : List Int) (v : Dv) (m : Nat) (v2 v3 : SV) : En := [.own (dr xs v), .dat (iD m), v2, v3]
theorem dSet {v : Dv} {v2 v3 : SV} {ix : Nat} {e : Em} {d : D} {v' : Dv} (he : e (dE xs v m v2 v3) = .ok (d, dE xs v m v2 v3)) (hi : ix < 4)
    (hv : [PyData.list (xs.map PyData.int), iD v.at_, iD v.p, iD v.s].set ix d = [.list (xs.map PyData.int), iD v'.at_, iD v'.p, iD v'.s]) : mSetD 0 (eC (iD ix)) e (dE xs v m v2 v3) = .ok (.nx, dE xs v' m v2 v3) := by
  unfold mSetD
  rw [he, bind_ok]
  show (match ixI 4 (iD ix) with
    | none => Rs.stk
    | some j => Rs.ok (Fl.nx, (dE xs v m v2 v3).set 0 (.own (.tl ([PyData.list (xs.map PyData.int), iD v.at_, iD v.p, iD v.s].set j d))))) = _
  rw [ixI_N hi]
  dsimp only
  rw [hv]
  rfl
theorem fMul_I {a b : Int} (ha : a.natAbs.log2 < 60000000) (hb : b.natAbs.log2 < 60000000) : fMul (.int a) (.int b) = .ok (.int (a * b)) := by
  show (if okMul a b = true then Rs.ok (PyData.int (a * b)) else .stk) = _
  rw [if_pos (by unfold okMul; rw [decide_eq_true ha, decide_eq_true hb]; rfl)]
/-- what is drawn of 0 .. m - 1 -/
theorem draw_ok {v : Dv} (hx : Sh xs) (h : Ok v) (hm2 : m < 2 ^ 62) : ∃ k v', M__law_draw (dr xs v) [iD m] = .ok (iD k, dr xs v') ∧ Ok v' ∧ (1 ≤ m → k < m) := by
  let P : D → MO → Prop := fun d mo' => ∃ k v', d = iD k ∧ mo' = dr xs v' ∧ Ok v' ∧ (1 ≤ m → k < m)
  obtain ⟨d, mo', e, k, v', rfl, rfl, h1, h2⟩ := fnD_ex (m := m__law_draw) (n := 4) (k := 2) (mo := dr xs v) (ds := [iD m]) (P := P) rfl (by
    show Wp (m__law_draw (dE xs v m .un .un)) _
    have d0 : ∀ v v2 v3, eDIx 0 (eC (.int 0)) (dE xs v m v2 v3) = .ok (.list (xs.map PyData.int), dE xs v m v2 v3) := fun _ _ _ => rfl
    have d1 : ∀ v v2 v3, eDIx 0 (eC (.int 1)) (dE xs v m v2 v3) = .ok (iD v.at_, dE xs v m v2 v3) := fun _ _ _ => rfl
    have d2 : ∀ v v2 v3, eDIx 0 (eC (.int 2)) (dE xs v m v2 v3) = .ok (iD v.p, dE xs v m v2 v3) := fun _ _ _ => rfl
    have d3 : ∀ v v2 v3, eDIx 0 (eC (.int 3)) (dE xs v m v2 v3) = .ok (iD v.s, dE xs v m v2 v3) := fun _ _ _ => rfl
    have dl : ∀ v v2 v3, eN fLen (aCons (eDIx 0 (eC (.int 0))) aNil) (dE xs v m v2 v3) = .ok (iD xs.length, dE xs v m v2 v3) := fun v v2 v3 => en1_of (d0 _ _ _) (by show Rs.ok (PyData.int (((xs.map PyData.int).length : Nat) : Int)) = _; rw [List.length_map])
    have t1 : tmOr (tmB (e2 fLt (eVar 1) (eC (.int 2)))) (tmB (e2 fEq (eN fLen (aCons (eDIx 0 (eC (.int 0))) aNil)) (eC (.int 0)))) (dE xs v m .un .un) = .ok (decide (m < 2) || decide (xs.length = 0), dE xs v m .un .un) :=
      tmOr_b (b_of (e2_of (d := iD m) (e := iD 2) rfl rfl (fLt_N m 2))) fun _ => b_of (e2_of (d := iD xs.length) (e := iD 0) (dl _ _ _) rfl (fEq_N _ 0))
    refine wp_out (en2 := dE xs v m .un .un) (d := iD 0) t1 (fun _ => ⟨rfl, _, _, rfl, rfl, 0, v, rfl, rfl, h, fun q => q⟩) (fun q => ?_)
    rw [Bool.or_eq_false_iff, decide_eq_false_iff_not, decide_eq_false_iff_not] at q
    obtain ⟨hm, _⟩ := q
    have rest : ∀ (v : Dv) (v3 : SV), Ok v → Wp ((mSeq (mAsg (gmName 2) (e2 fMod (eN fInt (aCons (eDIx 0 (eC (.int 2))) aNil)) (eVar 1)))
  (mSeq (mSetD 0 (eC (.int 2)) (e2 fDiv (eDIx 0 (eC (.int 2))) (eVar 1)))
  (mRet (eVar 2)))) (dE xs v m .un v3)) (fun fl en => ∃ d mo', fl = .rt d ∧ pinAt en 0 = some mo' ∧ P d mo') := fun v v3 h => by
      refine wp_asgs (d := iD (v.p % m)) (en1 := dE xs v m .un v3) (e2_of (d := iD v.p) (e := iD m) (en1_of (d2 _ _ _) fInt_int) rfl (fMod_N (by omega))) ?_
      refine wp_seq (dSet (v2 := .dat (iD (v.p % m))) (v' := ⟨v.at_, v.p / m, v.s⟩) (ix := 2) (e2_of (d := iD v.p) (e := iD m) (d2 _ _ _) rfl (fDiv_N (by omega) hm2)) (by decide) rfl) ?_
      exact wp_ret (d := iD (v.p % m)) rfl ⟨_, _, rfl, rfl, v.p % m, ⟨v.at_, v.p / m, v.s⟩, rfl, rfl, h, fun _ => Nat.mod_lt _ (by omega)⟩
    -- a cell c is taken
    have cell : ∀ (v : Dv) (c : Int), Ok v → c.natAbs.log2 < 60000000 → Wp ((mSeq (mIf (tmB (e2 fLt (eVar 3) (eC (.int 0))))
  (mAsg (gmName 3) (e2 fSub (eC (.int 1)) (e2 fMul (eC (.int 2)) (eVar 3))))
  mNext)
  (mSeq (mIf (tmB (e2 fLt (eVar 3) (eC (.int 1000000000000000000))))
  (mSeq (mSetD 0 (eC (.int 3)) (e2 fMod (eN fInt (aCons (e2 fAdd (e2 fAdd (e2 fMul (eDIx 0 (eC (.int 3))) (eC (.int 48271))) (e2 fMul (eVar 3) (eC (.int 69621)))) (eC (.int 1237))) aNil)) (eC (.int 2147483629))))
  (mRet (e2 fMod (eN fInt (aCons (e2 fDiv (eDIx 0 (eC (.int 3))) (eC (.int 6007))) aNil)) (eVar 1))))
  mNext)
  (mSetD 0 (eC (.int 2)) (eVar 3)))) (dE xs v m .un (.dat (.int c)))) (fun fl en => (∃ d mo', fl = .rt d ∧ pinAt en 0 = some mo' ∧ P d mo') ∨ (fl = .nx ∧ ∃ v v3, en = dE xs v m .un v3 ∧ Ok v)) := fun v c h hc => by
      have late : ∀ n : Nat, Wp ((mSeq (mIf (tmB (e2 fLt (eVar 3) (eC (.int 1000000000000000000))))
  (mSeq (mSetD 0 (eC (.int 3)) (e2 fMod (eN fInt (aCons (e2 fAdd (e2 fAdd (e2 fMul (eDIx 0 (eC (.int 3))) (eC (.int 48271))) (e2 fMul (eVar 3) (eC (.int 69621)))) (eC (.int 1237))) aNil)) (eC (.int 2147483629))))
  (mRet (e2 fMod (eN fInt (aCons (e2 fDiv (eDIx 0 (eC (.int 3))) (eC (.int 6007))) aNil)) (eVar 1))))
  mNext)
  (mSetD 0 (eC (.int 2)) (eVar 3))) (dE xs v m .un (.dat (iD n)))) (fun fl en => (∃ d mo', fl = .rt d ∧ pinAt en 0 = some mo' ∧ P d mo') ∨ (fl = .nx ∧ ∃ v v3, en = dE xs v m .un v3 ∧ Ok v)) := fun n => by
        refine wp_ifs (x := decide (n < 1000000000000000000)) (en1 := dE xs v m .un (.dat (iD n))) (b_of (e2_of (d := iD n) (e := iD 1000000000000000000) rfl rfl (fLt_N _ _))) (fun q => ?_) (fun _ => wp_next ?_)
        · have q := of_decide_eq_true q
          have hs : v.s < 2 ^ 31 := h
          let s' := (v.s * 48271 + n * 69621 + 1237) % 2147483629
          have hs' : s' < 2147483629 := Nat.mod_lt _ (by decide)
          let V : SV := .dat (iD n)
          refine wp_seq (dSet (v' := ⟨v.at_, v.p, s'⟩) (ix := 3) (e2_of (d := iD (v.s * 48271 + n * 69621 + 1237)) (e := iD 2147483629) (en1_of (d := iD (v.s * 48271 + n * 69621 + 1237)) (e2_of (d := iD (v.s * 48271 + n * 69621)) (e := iD 1237) (e2_of (d := iD (v.s * 48271)) (e := iD (n * 69621)) (e2_of (d := iD v.s) (e := iD 48271) (d3 _ _ _) rfl (fMul_N (by omega) (by decide))) (e2_of (d := iD n) (e := iD 69621) rfl rfl (fMul_N (by omega) (by decide))) (fAdd_N _ _)) rfl (fAdd_N _ _)) fInt_int) rfl (fMod_N (by decide))) (by decide) rfl) ?_
          exact wp_ret (d := iD (s' / 6007 % m)) (en1 := dE xs ⟨v.at_, v.p, s'⟩ m .un V) (e2_of (d := iD (s' / 6007)) (e := iD m) (en1_of (d := iD (s' / 6007)) (e2_of (d := iD s') (e := iD 6007) (d3 _ _ _) rfl (fDiv_N (by decide) (by decide))) fInt_int) rfl (fMod_N (by omega))) (.inl ⟨_, _, rfl, rfl, _, ⟨v.at_, v.p, s'⟩, rfl, rfl, by show s' < 2 ^ 31; omega, fun _ => Nat.mod_lt _ (by omega)⟩)
        · exact ⟨.nx, _, dSet (v2 := .un) (v3 := .dat (iD n)) (v' := ⟨v.at_, n, v.s⟩) (ix := 2) rfl (by decide) rfl, .inr ⟨rfl, ⟨v.at_, n, v.s⟩, _, rfl, h⟩⟩
      refine wp_ifs (x := decide (c < 0)) (en1 := dE xs v m .un (.dat (.int c))) (b_of (e2_of (d := .int c) (e := .int 0) rfl rfl (fLt_int c 0))) (fun q => ?_) (fun q => wp_next ?_)
      · have q := of_decide_eq_true q
        have e1 : (1 - 2 * c : Int) = (((1 - 2 * c).toNat : Nat) : Int) := by omega
        have e2' : e2 fSub (eC (.int 1)) (e2 fMul (eC (.int 2)) (eVar 3)) (dE xs v m .un (.dat (.int c))) = .ok (iD (1 - 2 * c).toNat, dE xs v m .un (.dat (.int c))) := e2_of (d := .int 1) (e := .int (2 * c)) rfl (e2_of (d := .int 2) (e := .int c) rfl rfl (fMul_I (by decide) hc)) (by show Rs.ok (PyData.int (1 - 2 * c)) = _; rw [e1]; rfl)
        exact wp_asg e2' (late _)
      · have q := of_decide_eq_false q
        have e1 : c = ((c.toNat : Nat) : Int) := by omega
        rw [e1]
        exact late _
    refine wp_ifs (x := decide (v.p = 0)) (en1 := dE xs v m .un .un) (b_of (e2_of (d := iD v.p) (e := iD 0) (d2 _ _ _) rfl (fEq_N _ 0))) (fun _ => ?_) (fun _ => wp_next (rest v .un h))
    have fin : ∀ {fl : Fl} {en : En}, ((∃ d mo', fl = .rt d ∧ pinAt en 0 = some mo' ∧ P d mo') ∨ (fl = .nx ∧ ∃ v v3, en = dE xs v m .un v3 ∧ Ok v)) → Th (mSeq (mAsg (gmName 2) (e2 fMod (eN fInt (aCons (eDIx 0 (eC (.int 2))) aNil)) (eVar 1)))
  (mSeq (mSetD 0 (eC (.int 2)) (e2 fDiv (eDIx 0 (eC (.int 2))) (eVar 1)))
  (mRet (eVar 2)))) (fun fl en => ∃ d mo', fl = .rt d ∧ pinAt en 0 = some mo' ∧ P d mo') fl en := fun {fl en} q => by
      rcases q with ⟨d, mo', rfl, q1, q2⟩ | ⟨rfl, v, v3, rfl, q⟩
      · exact ⟨d, mo', rfl, q1, q2⟩
      · exact rest v v3 q
    refine wp_asgs (d := .int 977) (en1 := dE xs v m .un .un) rfl ?_
    let V : SV := .dat (.int 977)
    refine wp_ifs (x := decide (v.at_ < xs.length)) (en1 := dE xs v m .un V) (b_of (e2_of (d := iD v.at_) (e := iD xs.length) (d1 _ _ _) (dl _ _ _) (fLt_N _ _))) (fun q => ?_) (fun _ => wp_next (wp_mono (cell v 977 h (by decide)) fun fl en q => fin q))
    have ha := of_decide_eq_true q
    let c := xs[v.at_]
    have ci : e2 fIx (eDIx 0 (eC (.int 0))) (eDIx 0 (eC (.int 1))) (dE xs v m .un V) = .ok (.int c, dE xs v m .un V) := e2_of (d := .list (xs.map PyData.int)) (e := iD v.at_) (d0 _ _ _) (d1 _ _ _) (by
      show (match atI (xs.map PyData.int) (v.at_ : Int) with
        | some z => Rs.ok z
        | none => .stk) = _
      rw [atI_map PyData.int xs v.at_ ha])
    refine wp_asgs (d := .int c) (en1 := dE xs v m .un V) ci ?_
    exact ⟨.nx, _, dSet (v2 := .un) (v3 := .dat (.int c)) (v' := ⟨v.at_ + 1, v.p, v.s⟩) (ix := 1) (e2_of (d := iD v.at_) (e := iD 1) (d1 _ _ _) rfl (fAdd_N _ _)) (by decide) rfl, wp_mono (cell ⟨v.at_ + 1, v.p, v.s⟩ c h (hx c (List.getElem_mem ha))) fun fl en q => fin q⟩)
  exact ⟨k, v', e, h1, h2⟩
theorem callD_at {en : En} {v v' : Dv} {d : D} {m : MO → List D → Rs (D × MO)} {i : Nat} {a : Am} {ds : List D} (he : en[i]? = some (.own (dr xs v))) (ha : a en = .ok (ds, en)) (hm : m (dr xs v) ds = .ok (d, dr xs v')) : eCallD m i a en = .ok (d, en.set i (.own (dr xs v'))) := by
  have p : pinAt en i = some (dr xs v) := by rw [pinAt_ap, he]; rfl
  rw [eCallD_ap, p]
  dsimp only
  rw [ha, bind_ok]
  dsimp only
  rw [p]
  dsimp only
  rw [hm]
  rfl
theorem drw {v : Dv} (hx : Sh xs) (h : Ok v) {i : Nat} {en : En} {a : Em} (he : en[i]? = some (.own (dr xs v))) (ha : a en = .ok (iD m, en)) (hm2 : m < 2 ^ 62 := by omega) : ∃ k v', eCallD M__law_draw i (aCons a aNil) en = .ok (iD k, en.set i (.own (dr xs v'))) ∧ Ok v' ∧ (1 ≤ m → k < m) := by
  obtain ⟨k, v', e, h1, h2⟩ := draw_ok (xs := xs) hx h hm2
  exact ⟨k, v', callD_at he (tone ha) e, h1, h2⟩
/-- .. two or more -/
theorem start_ok (hl : xs.length ≤ 63) : M__law_start [.list (xs.map PyData.int)] = .ok [.list (xs.map PyData.int), iD 0, iD 0, iD (5381 + 31 * xs.length)] := by
  have ln : eN fLen (aCons (eVar 0) aNil) [.dat (.list (xs.map PyData.int))] = .ok (iD xs.length, [.dat (.list (xs.map PyData.int))]) := en1_of (d := .list (xs.map PyData.int)) rfl (by show Rs.ok (PyData.int (((xs.map PyData.int).length : Nat) : Int)) = _; rw [List.length_map])
  have e : m__law_start [.dat (.list (xs.map PyData.int))] = .ok ([.list (xs.map PyData.int), iD 0, iD 0, iD (5381 + 31 * xs.length)], [.dat (.list (xs.map PyData.int))]) := by
    exact (congrArg Rs.calm (lst_of (en := [.dat (.list (xs.map PyData.int))]) (ds := [.list (xs.map PyData.int), iD 0, iD 0, iD (5381 + 31 * xs.length)]) (tcons (lN_of (f := fList) (tone rfl) rfl) (tcons rfl (tcons rfl (tone (e2_of (f := fAdd) (d := iD 5381) (e := iD (31 * xs.length)) rfl (e2_of (f := fMul) (d := iD 31) (e := iD xs.length) rfl ln (fMul_N (by decide) (by omega))) (fAdd_N _ _)))))) (Nat.le_of_ble_eq_true rfl))).trans rfl
  have f : M__law_start [.list (xs.map PyData.int)] = (m__law_start [.dat (.list (xs.map PyData.int))]).bind fun p => Rs.ok p.1 := by
    show fnO 1 1 m__law_start _ = _
    unfold fnO
    rw [if_pos (show ([PyData.list (xs.map PyData.int)] : List D).length = 1 from rfl)]
    rfl
  rw [f, e]
  rfl
end
end K24
end
section
set_option Elab.async false
set_option linter.all false
set_option maxRecDepth 100000
set_option maxHeartbeats 4000000
namespace K24
open PySem PySem.Spec PyProof.Rows L2 Mir
/-- data that the law's sameness walks -/
def smB : Nat → D → Bool
  | _, .none => true
  | _, .int _ => true
  | k + 1, .tuple ds => decide (ds.length ≤ 1000) && ds.all (smB k)
  | _, _ => false
theorem smB_t (k : Nat) (ds : List D) : smB (k + 1) (.tuple ds) = (decide (ds.length ≤ 1000) && ds.all (smB k)) := rfl
theorem smB_n (k : Nat) : smB k .none = true := by cases k <;> rfl
theorem smB_i (k : Nat) (i : Int) : smB k (.int i) = true := by cases k <;> rfl
abbrev sE (d e : D) (v : SV) : En := [.dat d, .dat e, v]
theorem same_int (k : Nat) (i : Int) : MR__law_same (k + 1) [.int i, .int i] = .ok (.bool true) := by
  refine fn_wp rfl ?_
  show Wp (m__law_same (MR__law_same k) (sE (.int i) (.int i) .un)) _
  refine wp_no (en1 := sE (.int i) (.int i) .un) rfl (wp_no (en1 := sE (.int i) (.int i) .un) rfl ?_)
  exact wp_ret (d := .bool true) (en1 := sE (.int i) (.int i) .un) (eAnd_b (x := true) (y := true) rfl fun _ => eAnd_b (x := true) (y := true) rfl fun _ => e2_of (d := .int i) (e := .int i) rfl rfl (by rw [fEq_int, decide_eq_true rfl])) rfl
theorem same_refl : ∀ (k : Nat) (d : D), smB k d = true → MR__law_same (k + 1) [d, d] = .ok (.bool true) := by
  intro k
  induction k with
  | zero =>
    intro d h
    cases d with
    | none => rfl
    | int i => exact same_int 0 i
    | _ => exact nomatch h
  | succ k ih =>
    intro d h
    cases d with
    | none => rfl
    | int i => exact same_int _ i
    | tuple ds =>
      rw [smB_t, Bool.and_eq_true, decide_eq_true_eq, List.all_eq_true] at h
      refine fn_wp rfl ?_
      show Wp (m__law_same (MR__law_same (k + 1)) (sE (.tuple ds) (.tuple ds) .un)) _
      refine wp_no (en1 := sE (.tuple ds) (.tuple ds) .un) rfl ?_
      refine wp_ifs (en1 := sE (.tuple ds) (.tuple ds) .un) (x := true) rfl (fun _ => ?_) (fun q => nomatch q)
      refine wp_no (en1 := sE (.tuple ds) (.tuple ds) .un) (or_no rfl (b_of (e2_of (d := iD ds.length) (e := iD ds.length) rfl rfl (by rw [fNe_N, decide_eq_true rfl]; rfl)))) ?_
      refine wp_bind (wp_rng (W := SV) (n := ds.length) (fun _ _ => True) (fun _ w => sE (.tuple ds) (.tuple ds) w) .un trivial (tone (en1_of rfl rfl)) (by omega) (fun i w hi _ => ?_) (fun w _ => ?_))
      · have e : ds.getD i .none ∈ ds := by
          rw [List.getD_eq_getElem?_getD, List.getElem?_eq_getElem hi]
          exact List.getElem_mem hi
        have q := ih _ (h.2 _ e)
        have q1 := ix_D ds i hi
        generalize ds.getD i .none = z at q q1
        refine wp_if (en1 := sE (.tuple ds) (.tuple ds) (.dat (iD i))) (x := false) (tmNot_b (x := true) (tr_of (call_b (ds := [z, z]) (tcons (e2_of (d := .tuple ds) (e := iD i) rfl rfl q1) (tone (e2_of (d := .tuple ds) (e := iD i) rfl rfl q1))) q))) (fun q => nomatch q) (fun _ => ?_)
        exact wp_next ⟨.dat (iD i), rfl, trivial⟩
      · exact wp_ret (d := .bool true) (en1 := sE (.tuple ds) (.tuple ds) w) rfl rfl
    | _ => exact nomatch h
theorem same_ok {d : D} (h : smB 5 d = true) : M__law_same [d, d] = .ok (.bool true) := same_refl 5 d h
theorem tup_sm {k : Nat} {ds : List D} (h : ds.length ≤ 1000) (h2 : ∀ d ∈ ds, smB k d = true) : smB (k + 1) (.tuple ds) = true := by
  rw [smB_t, decide_eq_true h, Bool.true_and, List.all_eq_true]
  exact h2
theorem nats_sm (k : Nat) (xs : List Nat) (h : xs.length ≤ 1000) : smB (k + 1) (tupN xs) = true :=
  tup_sm (by rw [List.length_map]; exact h) fun d hd => by
    obtain ⟨x, _, rfl⟩ := List.mem_map.mp hd
    exact smB_i _ _
section
variable {d e : D} {ds es : List D} {w : Str} {en en1 : En} {i j k n m : Nat}
def numB : D → Bool
  | .int i => decide (0 ≤ i)
  | _ => false
theorem num_ok (d : D) : M_number_fits [d] = .ok (.bool (numB d)) := by
  cases d with
  | int i => exact fn_ret rfl (en' := [.dat (.int i)]) (eAnd_b (x := true) (y := decide (0 ≤ i)) (call_b (ds := [.int i]) (tone rfl) rfl) fun _ => e2_of (d := .int i) (e := .int 0) rfl rfl (fGe_int i 0))
  | bool b => cases b <;> rfl
  | _ => rfl
def bitB : D → Bool
  | .int i => decide (0 ≤ i) && decide (i ≤ 1)
  | _ => false
theorem bit_ok (d : D) : M_is_bit [d] = .ok (.bool (bitB d)) := by
  cases d with
  | int i => exact fn_ret rfl (en' := [.dat (.int i)]) (eAnd_b (x := decide (0 ≤ i)) (y := decide (i ≤ 1)) (call_b (ds := [.int i]) (tone rfl) (num_ok _)) fun _ => e2_of (d := .int i) (e := .int 1) rfl rfl (fLe_int i 1))
  | bool b => cases b <;> rfl
  | _ => rfl
def bitsB : D → Bool
  | .tuple ds => ds.all bitB
  | _ => false
theorem bits_ok (h : ∀ ds, d = .tuple ds → ds.length ≤ 1000) : M_is_bits [d] = .ok (.bool (bitsB d)) := by
  cases d with
  | tuple ds =>
    refine fn_ret rfl (en' := [.dat (.tuple ds), .un]) (eAnd_b (x := true) (y := ds.all bitB) rfl fun _ => ?_)
    exact all_ok (j := 1) (enc := fun x : D => x) (xs := ds) (p := bitB) (imS_at (d := .tuple ds) rfl (by rw [List.map_id']; rfl)) (fun x _ => call_b (ds := [x]) (tone rfl) (bit_ok x)) (by have := h ds rfl; omega) (Nat.le_of_ble_eq_true rfl) rfl
  | _ => rfl
theorem bits_N {bs : List Nat} (h : ∀ b ∈ bs, b ≤ 1) (hl : bs.length ≤ 1000) : M_is_bits [tupN bs] = .ok (.bool true) := by
  have e : bitsB (tupN bs) = true := by
    show (bs.map iD).all bitB = true
    rw [List.all_map, List.all_eq_true]
    intro b hb
    have := h b hb
    show (decide (0 ≤ (b : Int)) && decide ((b : Int) ≤ 1)) = true
    rw [decide_eq_true (by omega), decide_eq_true (by omega)]
    rfl
  rw [bits_ok (fun ds q => by cases q; rw [List.length_map]; exact hl), e]
theorem want_true (w : Str) : M_a_want [.bool true, .str w] = .ok .none := rfl
theorem want_false (w : Str) : M_a_want [.bool false, .str w] = .err "NotUsable" [("at", .int (-1)), ("word", .str w)] := rfl
theorem many_ok (h : 1 ≤ n) : M_want_many [iD n] = .ok .none := by
  refine fn_wp rfl ?_
  show Wp (m_want_many [.dat (iD n)]) _
  refine ⟨.nx, [.dat (iD n)], ?_, rfl⟩
  have t : eAnd (eCall M_is_integer (aCons (eVar 0) aNil)) (e2 fGe (eVar 0) (eC (.int 1))) [.dat (iD n)] = .ok (.bool true, [.dat (iD n)]) := eAnd_b (x := true) (y := true) (call_b (ds := [iD n]) (tone rfl) rfl) fun _ => e2_of (d := iD n) (e := iD 1) rfl rfl (by rw [fGe_N, decide_eq_true h])
  exact dr_of (call_b (ds := [.bool true, .str "many"]) (tcons t (tone rfl)) (want_true _))
end
end K24
end
section
set_option Elab.async false
set_option linter.all false
set_option maxRecDepth 100000
set_option maxHeartbeats 4000000
namespace K24
open PySem PySem.Spec PyProof.Rows L2 Mir
section
variable {xs : List Int} {d e : D} {bs : List Nat} {w : Str} {en en1 : En} {i j k n m b : Nat} {v : Dv}
theorem sumT_N (bs : List Nat) : fSumT [tupN bs] = .ok (iD bs.sum) := by
  have e : intsOf (bs.map iD) = some (bs.map fun b : Nat => (b : Int)) := by
    induction bs with
    | nil => rfl
    | cons b bs ih =>
      rw [List.map_cons, List.map_cons]
      unfold intsOf
      rw [ih]
      rfl
  have s : (bs.map fun b : Nat => (b : Int)).sum = ((bs.sum : Nat) : Int) := by
    induction bs with
    | nil => rfl
    | cons b bs ih =>
      have e' : intsOf (bs.map iD) = some (bs.map fun b : Nat => (b : Int)) := by
        rw [List.map_cons, List.map_cons] at e
        unfold intsOf at e
        cases q : intsOf (bs.map iD) with
        | none => rw [q] at e; cases e
        | some l => rw [q] at e; injection e with e; injection e with _ e; rw [e]
      rw [List.map_cons, List.sum_cons, ih e', List.sum_cons]
      omega
  show (match intsOf (bs.map iD) with
    | some l => Rs.ok (PyData.int l.sum)
    | none => .stk) = _
  rw [e]
  dsimp only
  rw [s]
theorem dropW {m : Em} (h : m en = .ok (.bool true, en)) : mDrop (eCall M_a_want (aCons m (aCons (eC (.str w)) aNil))) en = .ok (.nx, en) := dr_of (call_b (ds := [.bool true, .str w]) (tcons h (tone rfl)) (want_true w))
theorem pieces_of_ok (hb : b ≤ 1) (h : ∀ x ∈ bs, x ≤ 1) (hl : bs.length ≤ 900) : M_pieces_of [iD b, tupN bs] = .ok (tupN (bs ++ [(b + bs.sum) % 2])) := by
  refine fn_wp rfl ?_
  let E : En := [.dat (iD b), .dat (tupN bs)]
  show Wp (m_pieces_of E) _
  have hbb : M_is_bit [iD b] = .ok (.bool true) := by
    rw [bit_ok]
    show Rs.ok (PyData.bool (decide (0 ≤ (b : Int)) && decide ((b : Int) ≤ 1))) = _
    rw [decide_eq_true (by omega), decide_eq_true (by omega)]
    rfl
  refine wp_seq (en1 := E) (dropW (call_b (ds := [iD b]) (tone rfl) hbb)) ?_
  refine wp_seq (en1 := E) (dropW (call_b (ds := [tupN bs]) (tone rfl) (bits_N h (by omega)))) ?_
  refine wp_ret (d := tupN (bs ++ [(b + bs.sum) % 2])) (en1 := E) (e2_of (d := tupN bs) (e := .tuple [iD ((b + bs.sum) % 2)]) rfl (tp_of (tone (e2_of (d := iD (b + bs.sum)) (e := iD 2) (e2_of (d := iD b) (e := iD bs.sum) rfl (en1_of (d := tupN bs) rfl (sumT_N bs)) (fAdd_N _ _)) rfl (fMod_N (by decide))))) (fAdd_tup bs _ (by omega))) rfl
theorem bit_of_ok (h : ∀ x ∈ bs, x ≤ 1) (hl : bs.length ≤ 1000) : M_bit_of [tupN bs] = .ok (iD (bs.sum % 2)) := by
  refine fn_wp rfl ?_
  let E : En := [.dat (tupN bs)]
  show Wp (m_bit_of E) _
  refine wp_seq (en1 := E) (dropW (call_b (ds := [tupN bs]) (tone rfl) (bits_N h hl))) ?_
  exact wp_ret (d := iD (bs.sum % 2)) (en1 := E) (e2_of (d := iD bs.sum) (e := iD 2) (en1_of (d := tupN bs) rfl (sumT_N bs)) rfl (fMod_N (by decide))) rfl
theorem tone_at {m : Em} {d : D} (h1 : m en = .ok (d, en1)) : aCons m aNil en = .ok ([d], en1) := by rw [aCons_ap, h1, bind_ok]; rfl
theorem tcons_at {m : Em} {a : Am} {en2 : En} {d : D} {ds : List D} (h1 : m en = .ok (d, en1)) (h2 : a en1 = .ok (ds, en2)) : aCons m a en = .ok (d :: ds, en2) := by rw [aCons_ap, h1, bind_ok, h2, bind_ok]
theorem b_at {a : Em} {b : Bool} (h : a en = .ok (.bool b, en1)) : tmB a en = .ok (b, en1) := by rw [tmB_ap, h, bind_ok]
theorem el_at {l : Am} {ds : List D} (h : l en = .ok (ds, en1)) : eL l en = .ok (.list ds, en1) := by rw [eL_ap, h, bind_ok]
theorem law_bits_ok (hx : Sh xs) (h : Ok v) (hk : k ≤ 900) : ∃ bs v', M__law_bits (dr xs v) [iD k] = .ok (tupN bs, dr xs v') ∧ Ok v' ∧ bs.length = k ∧ ∀ b ∈ bs, b ≤ 1 := by
  obtain ⟨d, mo', e, bs, v', rfl, rfl, q1, q2, q3⟩ := fnD_ex (m := m__law_bits) (n := 3) (k := 2) (mo := dr xs v) (ds := [iD k]) (P := fun d mo' => ∃ bs v', d = tupN bs ∧ mo' = dr xs v' ∧ Ok v' ∧ bs.length = k ∧ ∀ b ∈ bs, b ≤ 1) rfl (by
    let E : Dv → En := fun v => [.own (dr xs v), .dat (iD k), .un]
    show Wp (m__law_bits (E v)) _
    obtain ⟨bs, v1, e1, hl, hR, h⟩ := lc_run (W := Dv) (j := 2) (im := imRng rng1 (aCons (eVar 1) aNil)) (m := eCallD M__law_draw 0 (aCons (eC (.int 2)) aNil)) (enc := iD) (dec := iD) (xs := List.range k) (en := E v) E (fun _ v => Ok v) (fun b => b ≤ 1) v h (imR_at (tone rfl) (by omega)) (fun _ => rfl) (fun i v hi h => by
      obtain ⟨y, v', e, h', hy⟩ := drw hx h (m := 2) (i := 0) (en := (E v).set 2 (.dat (iD (List.range k)[i]))) (a := eC (.int 2)) rfl rfl
      exact ⟨y, v', e, by have := hy (by decide); omega, h'⟩) (by rw [List.length_range]; omega) rfl rfl
    rw [List.length_range] at hl
    exact wp_ret (d := tupN bs) (en1 := E v1) (eN_at (ds := [.list (bs.map iD)]) (tone_at (el_at e1)) rfl) ⟨_, _, rfl, rfl, bs, v1, rfl, rfl, h, hl, hR⟩)
  exact ⟨bs, v', e, q1, q2, q3⟩
/-- bits drawn within an expression -/
theorem dbits (hx : Sh xs) (h : Ok v) (hk : k ≤ 900) {i : Nat} {a : Am} (he : en[i]? = some (.own (dr xs v))) (ha : a en = .ok ([iD k], en)) : ∃ bs v', eCallD M__law_bits i a en = .ok (tupN bs, en.set i (.own (dr xs v'))) ∧ Ok v' ∧ bs.length = k ∧ ∀ b ∈ bs, b ≤ 1 := by
  obtain ⟨bs, v', e, h1, h2, h3⟩ := law_bits_ok (k := k) hx h hk
  exact ⟨bs, v', callD_at he ha e, h1, h2, h3⟩
theorem nt_ok {m : Em} (h : m en = .ok (.bool true, en)) : tmNot (tmTru m) en = .ok (false, en) := tmNot_b (tr_of h)
theorem same_at {m1 m2 : Em} (h1 : m1 en = .ok (d, en)) (h2 : m2 en = .ok (d, en)) (h : smB 5 d = true) : eCall M__law_same (aCons m1 (aCons m2 aNil)) en = .ok (.bool true, en) := call_b (ds := [d, d]) (tcons h1 (tone h2)) (same_ok h)
abbrev pE (xs : List Int) (v : Dv) (b : Nat) (u2 u3 u4 u5 : SV) : En := [.own (dr xs v), .dat (iD b), u2, u3, u4, u5]
theorem law_pieces_ok (hx : Sh xs) (h : Ok v) (hb : b ≤ 1) : ∃ v', M__law_pieces (dr xs v) [iD b] = .ok (.bool true, dr xs v') ∧ Ok v' := by
  obtain ⟨d, mo', e, v', rfl, rfl, q1⟩ := fnD_ex (m := m__law_pieces) (n := 6) (k := 2) (mo := dr xs v) (ds := [iD b]) (P := fun d mo' => ∃ v', d = .bool true ∧ mo' = dr xs v' ∧ Ok v') rfl (by
    show Wp (m__law_pieces (pE xs v b .un .un .un .un)) _
    refine wp_asgs (d := iD 5) (en1 := pE xs v b .un .un .un .un) rfl ?_
    obtain ⟨y, v1, e1, h, _⟩ := drw hx h (m := 12) (i := 0) (en := pE xs v b (.dat (iD 5)) .un .un .un) (a := eC (.int 12)) rfl rfl
    have key : ∀ w : Nat, w ≤ 41 → Wp ((mSeq (mAsg (gmName 3) (eCallD M__law_bits 0 (aCons (eCallD M__law_draw 0 (aCons (e2 fAdd (eVar 2) (eC (.int 1))) aNil)) aNil)))
  (mSeq (mAsg (gmName 4) (e2 fAdd (eVar 3) (eTup (aCons (e2 fMod (eN fInt (aCons (e2 fAdd (eVar 1) (eN fSumT (aCons (eVar 3) aNil))) aNil)) (eC (.int 2))) aNil))))
  (mSeq (mFor (imRng rng1 (aCons (eC (.int 2)) aNil)) (gmName 5)
  (mIf (tmOr (tmNot (tmTru (eCall M__law_same (aCons (eCall M_pieces_of (aCons (eVar 1) (aCons (eVar 3) aNil))) (aCons (eVar 4) aNil))))) (tmNot (tmTru (eCall M__law_same (aCons (eCall M_bit_of (aCons (eVar 4) aNil)) (aCons (eVar 1) aNil))))))
  (mRet (eC (.bool false)))
  mNext))
  (mRet (eCall M__law_same (aCons (eCall M_bit_of (aCons (eVar 3) aNil)) (aCons (e2 fMod (eN fInt (aCons (eN fSumT (aCons (eVar 3) aNil)) aNil)) (eC (.int 2))) aNil))))))) (pE xs v1 b (.dat (iD w)) .un .un .un)) (fun fl en => ∃ d mo', fl = .rt d ∧ pinAt en 0 = some mo' ∧ ∃ v', d = .bool true ∧ mo' = dr xs v' ∧ Ok v') := fun w hw => by
      obtain ⟨k, v2, e2', h, hk⟩ := drw hx h (m := w + 1) (i := 0) (en := pE xs v1 b (.dat (iD w)) .un .un .un) (a := e2 fAdd (eVar 2) (eC (.int 1))) rfl (e2_of (d := iD w) (e := iD 1) rfl rfl (fAdd_N _ _))
      have hk := hk (by omega)
      obtain ⟨bs, v3, e3, h, hl, hB⟩ := law_bits_ok (k := k) hx h (by omega)
      have e4 : eCallD M__law_bits 0 (aCons (eCallD M__law_draw 0 (aCons (e2 fAdd (eVar 2) (eC (.int 1))) aNil)) aNil) (pE xs v1 b (.dat (iD w)) .un .un .un) = .ok (tupN bs, pE xs v3 b (.dat (iD w)) .un .un .un) := by
        rw [eCallD_ap]
        show (match pinAt (pE xs v1 b (.dat (iD w)) .un .un .un) 0 with
          | none => Rs.stk
          | some _ => _) = _
        rw [show pinAt (pE xs v1 b (.dat (iD w)) .un .un .un) 0 = some (dr xs v1) from rfl]
        dsimp only
        rw [tone_at e2', bind_ok]
        dsimp only
        rw [show pinAt ((pE xs v1 b (.dat (iD w)) .un .un .un).set 0 (.own (dr xs v2))) 0 = some (dr xs v2) from rfl]
        dsimp only
        rw [e3]
        rfl
      let W : SV := .dat (iD w)
      let T : SV := .dat (tupN bs)
      refine wp_seq (en1 := pE xs v3 b W T .un .un) (asg_at e4) ?_
      let due := bs ++ [(b + bs.sum) % 2]
      have sm : ∀ u4 u5, eN fSumT (aCons (eVar 3) aNil) (pE xs v3 b W T u4 u5) = .ok (iD bs.sum, pE xs v3 b W T u4 u5) := fun _ _ => en1_of (d := tupN bs) rfl (sumT_N bs)
      refine wp_asgs (d := tupN due) (en1 := pE xs v3 b W T .un .un) (e2_of (d := tupN bs) (e := .tuple [iD ((b + bs.sum) % 2)]) rfl (tp_of (tone (e2_of (d := iD (b + bs.sum)) (e := iD 2) (en1_of (d := iD (b + bs.sum)) (e2_of (d := iD b) (e := iD bs.sum) rfl (sm _ _) (fAdd_N _ _)) fInt_int) rfl (fMod_N (by decide))))) (fAdd_tup bs _ (by omega))) ?_
      let U : SV := .dat (tupN due)
      have hd : due.length = bs.length + 1 := by show (bs ++ [_]).length = _; rw [List.length_append]; rfl
      have hD : ∀ x ∈ due, x ≤ 1 := fun x hx => by
        rcases List.mem_append.mp hx with q | q
        · exact hB x q
        · rw [List.mem_singleton.mp q]; omega
      have bo : M_bit_of [tupN due] = .ok (iD b) := by
        rw [bit_of_ok hD (by omega)]
        have : due.sum % 2 = b := by
          show (bs ++ [(b + bs.sum) % 2]).sum % 2 = b
          rw [List.sum_append, List.sum_singleton]
          omega
        rw [this]
      refine wp_bind (wp_rng (n := 2) (W := SV) (fun _ _ => True) (fun _ u => pE xs v3 b W T U u) .un trivial (tone rfl) (by omega) (fun i u hi _ => ?_) (fun u _ => ?_))
      · refine wp_if (x := false) (en1 := pE xs v3 b W T U (.dat (iD i))) (or_no (nt_ok (same_at (d := tupN due) (call_b (ds := [iD b, tupN bs]) (tcons rfl (tone rfl)) (pieces_of_ok hb hB (by omega))) rfl (nats_sm 4 _ (by omega)))) (nt_ok (same_at (d := iD b) (call_b (ds := [tupN due]) (tone rfl) bo) rfl (smB_i _ _)))) (fun q => by cases q) (fun _ => wp_next ⟨.dat (iD i), rfl, trivial⟩)
      · exact wp_ret (d := .bool true) (en1 := pE xs v3 b W T U u) (same_at (d := iD (bs.sum % 2)) (call_b (ds := [tupN bs]) (tone rfl) (bit_of_ok hB (by omega))) (e2_of (d := iD bs.sum) (e := iD 2) (en1_of (d := iD bs.sum) (sm _ _) fInt_int) rfl (fMod_N (by decide))) (smB_i _ _)) ⟨_, _, rfl, rfl, v3, rfl, rfl, h⟩
    refine wp_ifs (x := decide (y = 7)) (en1 := pE xs v1 b (.dat (iD 5)) .un .un .un) (b_at (e2_at e1 rfl (fEq_N y 7))) (fun _ => ?_) (fun _ => wp_next (key 5 (by decide)))
    exact wp_asg (d := iD 41) (en1 := pE xs v1 b (.dat (iD 5)) .un .un .un) rfl (key 41 (by decide)))
  exact ⟨v', e, q1⟩
end
end K24
end
section
set_option Elab.async false
set_option linter.all false
set_option maxRecDepth 100000
set_option maxHeartbeats 4000000
namespace K24
open PySem PySem.Spec PyProof.Rows L2 Mir
def houseB (n : Nat) : D → Bool
  | .int i => decide (0 ≤ i ∧ i < n)
  | _ => false
theorem house_ok (n : Nat) (d : D) : M_house_fits [iD n, d] = .ok (.bool (houseB n d)) := by
  cases d with
  | int i =>
    refine Eq.trans (b := Rs.ok (PyData.bool (decide (0 ≤ i) && decide (i < (n : Int))))) (fn_ret (n := 2) (k := 2) (ds := [iD n, .int i]) rfl (en' := [.dat (iD n), .dat (.int i)]) (eAnd_b (x := decide (0 ≤ i)) (y := decide (i < n)) (call_b (ds := [.int i]) (tone rfl) (num_ok (.int i))) fun _ => e2_of (d := .int i) (e := iD n) rfl rfl (fLt_int i n))) ?_
    show Rs.ok (PyData.bool (decide (0 ≤ i) && decide (i < (n : Int)))) = Rs.ok (PyData.bool (decide (0 ≤ i ∧ i < (n : Int))))
    rw [Bool.decide_and]
  | bool b => cases b <;> rfl
  | _ => rfl
theorem house_nat (n h : Nat) : M_house_fits [iD n, iD h] = .ok (.bool (decide (h < n))) := by
  rw [house_ok]
  show Rs.ok (PyData.bool (decide (0 ≤ (h : Int) ∧ (h : Int) < n))) = _
  congr 2
  exact decide_eq_decide.mpr (by omega)
theorem any_iD (ts : List Nat) (m : Nat) : ((ts.map iD).any fun z => PyData.eqv z (iD m)) = decide (m ∈ ts) := by
  induction ts with
  | nil => simp
  | cons t ts ih =>
    rw [List.map_cons, List.any_cons, ih, eqv_iD]
    by_cases q : t = m
    · simp [q]
    · have : m ≠ t := fun z => q z.symm
      simp [q, this]
/-- houses below n, strictly upwards, from above a -/
def fitL (n : Nat) : Int → List Nat → Bool
  | _, [] => true
  | a, h :: hs => decide (h < n) && decide (a < (h : Int)) && fitL n h hs
theorem lot_fits_ok (n : Nat) (xs : List Nat) (hf : fitL n (-1) xs = true) : M_lot_fits [iD n, tupN xs] = .ok (.bool true) := by
  have e : M_lot_fits [iD n, tupN xs] = ((endOf (m_lot_fits [.dat (iD n), .dat (tupN xs), .un, .un])).bind fun p => .ok p.1) := rfl
  rw [e]
  let body : Sm := mSeq (mIf (tmOr (tmNot (tmTru (eCall M_house_fits (aCons (eVar 0) (aCons (eVar 3) aNil))))) (tmB (e2 fLe (eVar 3) (eVar 2)))) (mRet (eC (.bool false))) mNext) (mAsg (gmName 2) (eVar 3))
  have go : ∀ (hs : List Nat) (a : Int) (v : SV), fitL n a hs = true → ∃ w u, forGo (gmName 3) body (hs.map iD) [.dat (iD n), .dat (tupN xs), .dat (.int a), v] = .ok (.nx, [.dat (iD n), .dat (tupN xs), w, u]) := by
    intro hs
    induction hs with
    | nil => intro a v _; exact ⟨_, _, rfl⟩
    | cons h hs ih =>
      intro a v hf
      unfold fitL at hf
      simp only [Bool.and_eq_true, decide_eq_true_eq] at hf
      obtain ⟨⟨h1, h2⟩, h3⟩ := hf
      obtain ⟨w, u, h4⟩ := ih h (.dat (iD h)) h3
      refine ⟨w, u, ?_⟩
      rw [List.map_cons]
      unfold forGo
      rw [gmName_ap, calm_ok, bind_ok]
      have eb : body ([.dat (iD n), .dat (tupN xs), .dat (.int a), v].set 3 (.dat (iD h))) = .ok (.nx, [.dat (iD n), .dat (tupN xs), .dat (iD h), .dat (iD h)]) := by
        simp only [body, mSeq_ap, mIf_ap, tmOr_ap, tmNot_ap, tmTru_ap, eCall_ap, aCons_ap, aNil_ap, eVar_ap, List.set_cons_succ, List.set_cons_zero, List.getElem?_cons_zero, List.getElem?_cons_succ, bind_ok, house_nat, decide_eq_true h1, tru_bool, calm_ok, Bool.not_true, Bool.false_eq_true, if_false, tmB_ap, e2_ap, fLe_int]
        rw [decide_eq_false (by omega : ¬ ((h : Int) ≤ a))]
        simp only [Bool.false_eq_true, if_false, mNext_ap, bind_ok, mAsg_ap, eVar_ap, List.getElem?_cons_zero, List.getElem?_cons_succ, gmName_ap, calm_ok, List.set_cons_succ, List.set_cons_zero]
      rw [eb, bind_ok]
      exact h4
  obtain ⟨w, u, h1⟩ := go xs (-1) .un hf
  have em : m_lot_fits = mSeq (mIf (tmNot (tmTru (eIsi .tup (eVar 1)))) (mRet (eC (.bool false))) mNext) (mSeq (mAsg (gmName 2) (e1 fNeg (eC (.int 1)))) (mSeq (mFor (imSeq (eVar 1)) (gmName 3) body) (mRet (eC (.bool true))))) := rfl
  rw [em]
  have ht : isi .tup (tupN xs) = true := rfl
  have hi : itemsOf (tupN xs) = .ok (xs.map iD) := rfl
  simp only [mSeq_ap, mIf_ap, tmNot_ap, tmTru_ap, eIsi_ap, eVar_ap, List.getElem?_cons_zero, List.getElem?_cons_succ, bind_ok, ht, tru_bool, calm_ok, Bool.not_true, Bool.false_eq_true, if_false, mNext_ap, mAsg_ap, e1_ap, eC_ap, fNeg_int, gmName_ap, List.set_cons_succ, List.set_cons_zero, mFor_ap, imSeq_ap, hi, h1, mRet_ap, endOf]
theorem is_lots_ok (n : Nat) (F : List (List Nat)) (hf : ∀ f ∈ F, fitL n (-1) f = true) (hz : F.length ≤ 1000) : M_is_lots [iD n, FD F] = .ok (.bool true) := by
  have e : M_is_lots [iD n, FD F] = ((endOf (m_is_lots [.dat (iD n), .dat (FD F), .un])).bind fun p => .ok p.1) := rfl
  rw [e]
  unfold m_is_lots
  have hc := lLc_pure (j := 2) (im := imSeq (eVar 1)) (t := tmYes) (m := eCall M_lot_fits (aCons (eVar 0) (aCons (eVar 2) aNil))) (en := [.dat (iD n), .dat (FD F), .un]) (ds := F.map tupN) (fun _ => true) (fun _ => .bool true) rfl (by show 2 < 3; omega) rfl (by rw [List.length_map]; show _ ≤ 100000; omega) (by
    intro d hd
    obtain ⟨f, hf', rfl⟩ := List.mem_map.mp hd
    refine ⟨rfl, fun _ => ?_⟩
    simp only [eCall_ap, aCons_ap, aNil_ap, eVar_ap, List.set_cons_succ, List.set_cons_zero, List.getElem?_cons_zero, List.getElem?_cons_succ, bind_ok, lot_fits_ok n f (hf f hf')])
  have ht : isi .tup (FD F) = true := rfl
  simp only [mRet_ap, eAnd_ap, eIsi_ap, eVar_ap, List.getElem?_cons_zero, List.getElem?_cons_succ, bind_ok, ht, eN_ap, aCons_ap, aNil_ap, eL_ap]
  rw [hc]
  have ea : ((F.map tupN).filter fun _ => true).map (fun _ => PyData.bool true) = (F.map fun _ => true).map PyData.bool := by
    rw [List.filter_eq_self.mpr fun _ _ => rfl, List.map_map, List.map_map]
    rfl
  simp only [bind_ok, ea, fAll, boolsOf_map, calm_ok, endOf]
  have : (F.map fun _ => true).all id = true := by simp
  rw [this]
theorem in_tup (h : Nat) (b : List Nat) : fIn (iD h) (tupN b) = .ok (.bool (decide (h ∈ b))) := by
  show yn (okEq (iD h) (tupN b)) ((b.map iD).any fun z => PyData.eqv z (iD h)) = _
  have hc : okEq (iD h) (tupN b) = true := by unfold okEq; rw [shaped_int, shaped_tupN]; rfl
  rw [hc, any_iD]
  rfl
theorem notIn_tup (h : Nat) (b : List Nat) : fNotIn (iD h) (tupN b) = .ok (.bool (!decide (h ∈ b))) := by
  show yn (okEq (iD h) (tupN b)) (!(b.map iD).any fun z => PyData.eqv z (iD h)) = _
  have hc : okEq (iD h) (tupN b) = true := by unfold okEq; rw [shaped_int, shaped_tupN]; rfl
  rw [hc, any_iD]
  rfl
section
variable {n h : Nat} {L : List Nat} {Ls : List (List Nat)}
theorem fitL_mem : ∀ {L : List Nat} {a : Int}, fitL n a L = true → ∀ h ∈ L, h < n ∧ a < (h : Int)
  | [], _, _, h, hm => by cases hm
  | x :: L, a, q, h, hm => by
    unfold fitL at q
    simp only [Bool.and_eq_true, decide_eq_true_eq] at q
    rcases List.mem_cons.mp hm with rfl | hm
    · exact ⟨q.1.1, q.1.2⟩
    · have := fitL_mem q.2 h hm
      exact ⟨this.1, by omega⟩
theorem fitL_len : ∀ {L : List Nat} {a : Nat}, fitL n a L = true → a < n → L.length + a < n
  | [], a, _, h => by show 0 + a < n; omega
  | x :: L, a, q, h => by
    unfold fitL at q
    simp only [Bool.and_eq_true, decide_eq_true_eq] at q
    have := fitL_len q.2 q.1.1
    show L.length + 1 + a < n
    have := q.1.2
    omega
theorem fitL_small (q : fitL n (-1) L = true) : L.length ≤ n := by
  cases L with
  | nil => exact Nat.zero_le _
  | cons x L =>
    unfold fitL at q
    simp only [Bool.and_eq_true, decide_eq_true_eq] at q
    have := fitL_len q.2 q.1.1
    show L.length + 1 ≤ n
    omega
/-- the lots -/
structure Lo (n : Nat) (Ls : List (List Nat)) : Prop where
  n1 : 1 ≤ n
  n6 : n ≤ 6
  one : 1 ≤ Ls.length
  five : Ls.length ≤ 5
  fit : ∀ L ∈ Ls, fitL n (-1) L = true
theorem FD_len (Ls : List (List Nat)) : fLen [FD Ls] = .ok (iD Ls.length) := by
  show Rs.ok (PyData.int (((Ls.map tupN).length : Nat) : Int)) = _
  rw [List.length_map]
theorem want_lots_ok (H : Lo n Ls) : M_want_lots [iD n, FD Ls] = .ok .none := by
  refine fn_wp rfl ?_
  let E : En := [.dat (iD n), .dat (FD Ls)]
  show Wp (m_want_lots E) _
  have h5 := H.five
  exact ⟨.nx, E, dropW (eAnd_b (x := true) (y := true) (call_b (ds := [iD n, FD Ls]) (tcons rfl (tone rfl)) (is_lots_ok n Ls H.fit (by omega))) fun _ => e2_of (d := iD Ls.length) (e := iD 0) (en1_of (d := FD Ls) rfl (FD_len Ls)) rfl (by rw [fGt_N, decide_eq_true (show 0 < Ls.length from H.one)])), rfl⟩
theorem is_lot_ok (h1 : 1 ≤ n) (q : fitL n (-1) L = true) : M_is_lot [iD n, tupN L] = .ok (.bool true) := by
  refine fn_wp rfl ?_
  let E : En := [.dat (iD n), .dat (tupN L)]
  show Wp (m_is_lot E) _
  have mf : M_many_fits [iD n] = .ok (.bool true) := fn_ret rfl (en' := [.dat (iD n)]) (eAnd_b (x := true) (y := true) (call_b (ds := [iD n]) (tone rfl) rfl) fun _ => e2_of (d := iD n) (e := iD 1) rfl rfl (by rw [fGe_N, decide_eq_true h1]))
  refine wp_seq (en1 := E) (dropW (call_b (ds := [iD n]) (tone rfl) mf)) ?_
  exact wp_ret (d := .bool true) (en1 := E) (call_b (ds := [iD n, tupN L]) (tcons rfl (tone rfl)) (lot_fits_ok n L q)) rfl
end
end K24
end
section
set_option Elab.async false
set_option linter.all false
set_option maxRecDepth 100000
set_option maxHeartbeats 4000000
namespace K24
open PySem PySem.Spec PyProof.Rows L2 Mir
section
variable {n h m : Nat} {A B : List Nat} {Ls : List (List Nat)} {en en1 : En}
def hp (n : Nat) (A B : List Nat) : Option Nat := (List.range n).findSome? fun h => if h ∈ A ∨ h ∈ B then none else some h
def opD : Option Nat → D
  | none => .none
  | some h => iD h
theorem find_opD {α : Type} (f : α → Option Nat) (xs : List α) : (match xs.findSome? fun x => (f x).map iD with
    | some d => d
    | none => PyData.none) = opD (xs.findSome? f) := by
  induction xs with
  | nil => rfl
  | cons x xs ih =>
    rw [List.findSome?_cons, List.findSome?_cons]
    cases f x with
    | none => exact ih
    | some y => rfl
abbrev lE (n : Nat) (A B : List Nat) (u : SV) : En := [.dat (iD n), .dat (tupN A), .dat (tupN B), u]
theorem least_ok (h6 : n ≤ 6) : M_least_outside [iD n, tupN A, tupN B] = .ok (opD (hp n A B)) := by
  refine fn_wp rfl ?_
  show Wp (m_least_outside (lE n A B .un)) _
  refine wp_bind (wp_seekI iD (fun en => ∃ u, en = lE n A B u) (fun h => (if h ∈ A ∨ h ∈ B then none else some h).map iD) (List.range n) (imR_at (tone rfl) (by omega)) ⟨_, rfl⟩ ?_ ?_)
  · rintro h _ en ⟨u, rfl⟩
    refine ⟨lE n A B (.dat (iD h)), rfl, ?_⟩
    refine wp_if (x := !decide (h ∈ A ∨ h ∈ B)) (en1 := lE n A B (.dat (iD h))) ?_ (fun q => ?_) (fun q => ?_)
    · rw [Bool.decide_or, Bool.not_or]
      exact tmAnd_b (b_of (e2_of (d := iD h) (e := tupN A) rfl rfl (notIn_tup h A))) fun _ => b_of (e2_of (d := iD h) (e := tupN B) rfl rfl (notIn_tup h B))
    · have q : ¬ (h ∈ A ∨ h ∈ B) := by simpa using q
      refine wp_ret (d := iD h) (en1 := lE n A B (.dat (iD h))) rfl ⟨⟨_, rfl⟩, ?_⟩
      rw [if_neg q]; rfl
    · have q : h ∈ A ∨ h ∈ B := by
        by_cases c : h ∈ A ∨ h ∈ B
        · exact c
        · rw [decide_eq_false c] at q; cases q
      refine wp_next ⟨⟨_, rfl⟩, ?_⟩
      rw [if_pos q]; exact .inl rfl
  · rintro en ⟨u, rfl⟩
    have := find_opD (fun h => if h ∈ A ∨ h ∈ B then none else some h) (List.range n)
    revert this
    cases (List.range n).findSome? (fun h => (if h ∈ A ∨ h ∈ B then none else some h).map iD) with
    | none => exact fun e => wp_ret (d := .none) (en1 := lE n A B u) rfl e
    | some d => exact fun e => e
theorem lhelper_ok (h6 : n ≤ 6) : M__law_helper [iD n, tupN A, tupN B] = .ok (opD (hp n A B)) := by
  have e : M__law_helper = M_least_outside := rfl
  rw [e, least_ok h6]
theorem hp_lt (q : hp n A B = some h) : h < n := by
  unfold hp at q
  obtain ⟨x, hx, e⟩ := List.exists_of_findSome?_eq_some q
  have hx := List.mem_range.mp hx
  by_cases c : x ∈ A ∨ x ∈ B
  · rw [if_pos c] at e; cases e
  · rw [if_neg c] at e; cases e; exact hx
theorem helper_ok (h1 : 1 ≤ n) (h6 : n ≤ 6) (qA : fitL n (-1) A = true) (qB : fitL n (-1) B = true) : M_helper_of [iD n, tupN A, tupN B] = .ok (opD (hp n A B)) := by
  refine fn_wp rfl ?_
  let E : En := [.dat (iD n), .dat (tupN A), .dat (tupN B)]
  show Wp (m_helper_of E) _
  refine wp_seq (en1 := E) (dr_of (call_b (ds := [iD n]) (tone rfl) (many_ok h1))) ?_
  refine wp_seq (en1 := E) (dropW (call_b (ds := [iD n, tupN A]) (tcons rfl (tone rfl)) (is_lot_ok h1 qA))) ?_
  refine wp_seq (en1 := E) (dropW (call_b (ds := [iD n, tupN B]) (tcons rfl (tone rfl)) (is_lot_ok h1 qB))) ?_
  exact wp_ret (d := opD (hp n A B)) (en1 := E) (call_b (ds := [iD n, tupN A, tupN B]) (tcons rfl (tcons rfl (tone rfl))) (least_ok h6)) rfl
/-- the helper of the two lots of a pair -/
def hpP (n : Nat) (Ls : List (List Nat)) (p : Nat × Nat) : Option Nat := hp n (Ls.getD p.1 []) (Ls.getD p.2 [])
/-- the first t pairs of m lots -/
def prs (m t : Nat) : List (Nat × Nat) := (List.range t).map fun i => (i / m, i % m)
def rowsAt (n : Nat) (Ls : List (List Nat)) (t : Nat) : List (List (Nat × Nat)) := (List.range n).map fun h => (prs Ls.length t).filter fun p => decide (hpP n Ls p = some h)
def pD (p : Nat × Nat) : D := .tuple [iD p.1, iD p.2]
/-- is there a helper for every two lots? -/
def allH (n : Nat) (Ls : List (List Nat)) : Bool := (prs Ls.length (Ls.length * Ls.length)).all fun p => (hpP n Ls p).isSome
def dealt (n : Nat) (Ls : List (List Nat)) : List (List (Nat × Nat)) := rowsAt n Ls (Ls.length * Ls.length)
def rowsD (R : List (List (Nat × Nat))) : D := .tuple (R.map fun r => .tuple (r.map pD))
def dealtD (n : Nat) (Ls : List (List Nat)) : D := if allH n Ls = true then rowsD (dealt n Ls) else .none
theorem prs_len (m t : Nat) : (prs m t).length = t := by unfold prs; rw [List.length_map, List.length_range]
theorem prs_succ (m t : Nat) : prs m (t + 1) = prs m t ++ [(t / m, t % m)] := by unfold prs; rw [List.range_succ, List.map_append]; rfl
theorem rowsAt_len (t : Nat) : (rowsAt n Ls t).length = n := by unfold rowsAt; rw [List.length_map, List.length_range]
theorem rowsAt_get (t : Nat) (hh : h < n) : (rowsAt n Ls t)[h]? = some ((prs Ls.length t).filter fun p => decide (hpP n Ls p = some h)) := by
  unfold rowsAt
  rw [List.getElem?_map, List.getElem?_range hh]
  rfl
theorem rowsAt_succ (t : Nat) (q : hpP n Ls (t / Ls.length, t % Ls.length) = some h) : rowsAt n Ls (t + 1) = (rowsAt n Ls t).set h (((prs Ls.length t).filter fun p => decide (hpP n Ls p = some h)) ++ [(t / Ls.length, t % Ls.length)]) := by
  have hh := hp_lt q
  refine List.ext_getElem? fun i => ?_
  by_cases hi : i < n
  · rw [rowsAt_get _ hi, prs_succ, List.filter_append]
    by_cases e : i = h
    · subst e
      rw [List.getElem?_set_self (by rw [rowsAt_len]; exact hi), List.filter_cons, if_pos (decide_eq_true q)]
      rfl
    · rw [List.getElem?_set_ne (fun z => e z.symm), rowsAt_get _ hi, List.filter_cons, if_neg (by rw [decide_eq_true_eq, q]; exact fun z => e (Option.some.inj z).symm)]
      show some (_ ++ []) = _
      rw [List.append_nil]
  · rw [List.getElem?_eq_none (by rw [rowsAt_len]; omega), List.getElem?_eq_none (by rw [List.length_set, rowsAt_len]; omega)]
theorem pair_at {k j : Nat} (hj : j < m) : (k * m + j) / m = k ∧ (k * m + j) % m = j := by
  have h0 : 0 < m := by omega
  constructor
  · rw [Nat.mul_comm, Nat.mul_add_div h0, Nat.div_eq_of_lt hj, Nat.add_zero]
  · rw [Nat.mul_comm, Nat.mul_add_mod, Nat.mod_eq_of_lt hj]
theorem ix_FD {F : List (List Nat)} {i : Nat} (hi : i < F.length) : fIx (FD F) (iD i) = .ok (tupN (F.getD i [])) := by
  have e := ix_D (F.map tupN) i (by rw [List.length_map]; exact hi)
  have e2 : (F.map tupN).getD i .none = tupN (F.getD i []) := by
    rw [List.getD_eq_getElem?_getD, List.getElem?_map, List.getElem?_eq_getElem hi, List.getD_eq_getElem?_getD, List.getElem?_eq_getElem hi]
    rfl
  rw [e2] at e
  exact e
theorem none_bad {k j : Nat} (hk : k < Ls.length) (hj : j < Ls.length) (q : hp n (Ls.getD k []) (Ls.getD j []) = none) : dealtD n Ls = .none := by
  unfold dealtD
  rw [if_neg]
  intro c
  unfold allH at c
  rw [List.all_eq_true] at c
  have c := c (k, j) (by
    unfold prs
    refine List.mem_map.mpr ⟨k * Ls.length + j, List.mem_range.mpr ?_, ?_⟩
    · have : (k + 1) * Ls.length ≤ Ls.length * Ls.length := Nat.mul_le_mul_right _ hk
      rw [Nat.succ_mul] at this
      omega
    · rw [(pair_at hj).1, (pair_at hj).2])
  unfold hpP at c
  rw [q] at c
  cases c
theorem some_all {t : Nat} (g : ∀ i < t, (hpP n Ls (i / Ls.length, i % Ls.length)).isSome = true) (e : t = Ls.length * Ls.length) : allH n Ls = true := by
  unfold allH prs
  subst e
  rw [List.all_eq_true]
  intro p hp
  obtain ⟨i, hi, rfl⟩ := List.mem_map.mp hp
  exact g i (List.mem_range.mp hi)
/-- the rows as lists of an own list -/
abbrev rowsO (n : Nat) (Ls : List (List Nat)) (t : Nat) : SV := .own (.ll ((rowsAt n Ls t).map fun r => r.map pD))
theorem rows_nil : (List.replicate n [] : List (List D)) = (rowsAt n Ls 0).map fun r => r.map pD := by
  refine (List.eq_replicate_iff.mpr ⟨by rw [List.length_map, rowsAt_len], fun b hb => ?_⟩).symm
  obtain ⟨r, hr, rfl⟩ := List.mem_map.mp hb
  unfold rowsAt at hr
  obtain ⟨h, _, rfl⟩ := List.mem_map.mp hr
  rfl
abbrev dtE (n : Nat) (Ls : List (List Nat)) (o u3 u4 u5 : SV) : En := [.dat (iD n), .dat (FD Ls), o, u3, u4, .un, u5, .un]
theorem dealt_to_ok (H : Lo n Ls) : M_dealt_to [iD n, FD Ls] = .ok (dealtD n Ls) := by
  have h6 := H.n6
  have h5 := H.five
  refine fn_wp rfl ?_
  show Wp (m_dealt_to (dtE n Ls .un .un .un .un)) _
  obtain ⟨bs, _, e0, hl, hb⟩ := wlc_run (W := Unit) (j := 5) (im := imRng rng1 (aCons (eVar 0) aNil)) (m := lLst aNil) (enc := iD) (xs := List.range n) (en := dtE n Ls .un .un .un .un) (fun _ => dtE n Ls .un .un .un .un) (fun b => b = []) () (imR_at (tone rfl) (by omega)) (fun _ => rfl) (fun x _ w => ⟨[], (), rfl, rfl⟩) (by rw [List.length_range]; omega) rfl rfl
  have eb : bs = (rowsAt n Ls 0).map fun r => r.map pD := by
    rw [← rows_nil]
    exact List.eq_replicate_iff.mpr ⟨by rw [hl, List.length_range], hb⟩
  subst eb
  refine wp_seq (en1 := dtE n Ls (rowsO n Ls 0) .un .un .un) (asgW_ok e0 rfl) ?_
  have len : eN fLen (aCons (eVar 1) aNil) = eN fLen (aCons (eVar 1) aNil) := rfl
  refine wp_bind (wp_rngI (n := Ls.length) (fun k en => ∃ u3 u4 u5, en = dtE n Ls (rowsO n Ls (k * Ls.length)) u3 u4 u5 ∧ ∀ i < k * Ls.length, (hpP n Ls (i / Ls.length, i % Ls.length)).isSome = true) (tone (en1_of (d := FD Ls) rfl (FD_len Ls))) ⟨.un, .un, .un, by rw [Nat.zero_mul], fun i hi => by omega⟩ (by omega) ?_ ?_)
  · rintro k en hk ⟨u3, u4, u5, rfl, g⟩
    refine wp_rngI (n := Ls.length) (fun j en => ∃ u4 u5, en = dtE n Ls (rowsO n Ls (k * Ls.length + j)) (.dat (iD k)) u4 u5 ∧ ∀ i < k * Ls.length + j, (hpP n Ls (i / Ls.length, i % Ls.length)).isSome = true) (en1 := dtE n Ls (rowsO n Ls (k * Ls.length)) (.dat (iD k)) u4 u5) (tone (en1_of (d := FD Ls) rfl (FD_len Ls))) ⟨u4, u5, rfl, g⟩ (by omega) ?_ ?_
    · rintro j en hj ⟨v4, v5, rfl, g⟩
      have hkm : k * Ls.length + j < 25 := by
        have : (k + 1) * Ls.length ≤ 5 * 5 := Nat.mul_le_mul (by omega) (by omega)
        rw [Nat.succ_mul] at this
        omega
      let t := k * Ls.length + j
      let E1 : SV → En := fun u5 => dtE n Ls (rowsO n Ls t) (.dat (iD k)) (.dat (iD j)) u5
      refine wp_asgs (d := opD (hp n (Ls.getD k []) (Ls.getD j []))) (en1 := E1 v5) (call_b (ds := [iD n, tupN (Ls.getD k []), tupN (Ls.getD j [])]) (tcons rfl (tcons (e2_of (d := FD Ls) (e := iD k) rfl rfl (ix_FD hk)) (tone (e2_of (d := FD Ls) (e := iD j) rfl rfl (ix_FD hj))))) (least_ok h6)) ?_
      have pa := pair_at (m := Ls.length) (k := k) hj
      cases q : hp n (Ls.getD k []) (Ls.getD j []) with
      | none =>
        refine wp_out (x := true) (en1 := E1 (.dat .none)) (en2 := E1 (.dat .none)) (d := .none) rfl (fun _ => ⟨rfl, ?_⟩) (fun z => by cases z)
        exact (none_bad hk hj q).symm
      | some h =>
        have hh := hp_lt q
        have q2 : hpP n Ls (t / Ls.length, t % Ls.length) = some h := by
          show hpP n Ls ((k * Ls.length + j) / Ls.length, (k * Ls.length + j) % Ls.length) = _
          rw [pa.1, pa.2]; exact q
        refine wp_no (en1 := E1 (.dat (iD h))) rfl ?_
        let r := (prs Ls.length t).filter fun p => decide (hpP n Ls p = some h)
        have hr : ((rowsAt n Ls t).map fun r => r.map pD)[h]? = some (r.map pD) := by rw [List.getElem?_map, rowsAt_get _ hh]; rfl
        have hrl : (r.map pD).length < 99999 := by
          rw [List.length_map]
          have := List.length_filter_le (fun p => decide (hpP n Ls p = some h)) (prs Ls.length t)
          rw [prs_len] at this
          have ht : t < 25 := hkm
          show (List.filter _ _).length < _
          omega
        refine wp_lap (en1 := dtE n Ls (rowsO n Ls (t + 1)) (.dat (iD k)) (.dat (iD j)) (.dat (iD h))) ?_ ⟨_, _, rfl, fun i hi => ?_⟩
        · refine (appLL_at (i := 2) (en := E1 (.dat (iD h))) (ess := (rowsAt n Ls t).map fun r => r.map pD) (es := r.map pD) (k := h) (d := pD (k, j)) rfl rfl hr rfl hrl).trans ?_
          have e3 : ((rowsAt n Ls t).map fun r => r.map pD).set h (r.map pD ++ [pD (k, j)]) = (rowsAt n Ls (t + 1)).map fun r => r.map pD := by
            rw [rowsAt_succ t q2, List.map_set, List.map_append]
            have : (t / Ls.length, t % Ls.length) = (k, j) := Prod.ext pa.1 pa.2
            rw [this]
            rfl
          rw [e3]
          rfl
        · rcases Nat.lt_or_ge i t with z | z
          · exact g i z
          · have : i = t := by omega
            subst this
            rw [q2]; rfl
    · rintro en ⟨v4, v5, rfl, g⟩
      rw [← Nat.succ_mul] at g ⊢
      exact ⟨_, _, _, rfl, g⟩
  · rintro en ⟨u3, u4, u5, rfl, g⟩
    have ha := some_all g rfl
    have ed : dealtD n Ls = rowsD (dealt n Ls) := by unfold dealtD; rw [if_pos ha]
    rw [ed]
    let R := dealt n Ls
    have hRl : R.length = n := rowsAt_len _
    let E2 : En := dtE n Ls (.dat (.list ((R.map fun r => r.map pD).map PyData.list))) u3 u4 u5
    have fz : eFrz 2 (dtE n Ls (rowsO n Ls (Ls.length * Ls.length)) u3 u4 u5) = .ok (.list ((R.map fun r => r.map pD).map PyData.list), E2) := frz_ll rfl
    refine wp_ret (d := rowsD R) (en1 := E2) (eN_at (ds := [.list (R.map fun r => .tuple (r.map pD))]) (tone_at (el_at ?_)) rfl) rfl
    refine (lc_move (imS_at fz rfl)).trans ?_
    have hc := lc_map (j := 7) (im := fun e => Rs.ok ((R.map fun r => r.map pD).map PyData.list, e)) (m := eN fTuple (aCons (eVar 7) aNil)) (en := E2) (enc := fun r : List (Nat × Nat) => PyData.list (r.map pD)) (xs := R) (f := fun r => PyData.tuple (r.map pD)) (by rw [List.map_map]; rfl) (fun r _ => en1_of (d := .list (r.map pD)) rfl rfl) (by omega) (by show 7 < 7 + 1; omega) rfl
    exact hc
abbrev ldE (n : Nat) (Ls : List (List Nat)) (o u3 u4 u5 : SV) : En := [.dat (iD n), .dat (FD Ls), o, u3, u4, u5, .un]
theorem law_dealt_ok (H : Lo n Ls) : M__law_dealt [iD n, FD Ls] = .ok (dealtD n Ls) := by
  have h6 := H.n6
  have h5 := H.five
  refine fn_wp rfl ?_
  show Wp (m__law_dealt (ldE n Ls .un .un .un .un)) _
  obtain ⟨bs, _, e0, hl, hb⟩ := wlc_run (W := Unit) (j := 5) (im := imRng rng1 (aCons (eVar 0) aNil)) (m := lLst aNil) (enc := iD) (xs := List.range n) (en := ldE n Ls .un .un .un .un) (fun _ => ldE n Ls .un .un .un .un) (fun b => b = []) () (imR_at (tone rfl) (by omega)) (fun _ => rfl) (fun x _ w => ⟨[], (), rfl, rfl⟩) (by rw [List.length_range]; omega) rfl rfl
  have eb : bs = (rowsAt n Ls 0).map fun r => r.map pD := by
    rw [← rows_nil]
    exact List.eq_replicate_iff.mpr ⟨by rw [hl, List.length_range], hb⟩
  subst eb
  refine wp_seq (en1 := ldE n Ls (rowsO n Ls 0) .un .un .un) (asgW_ok e0 rfl) ?_
  have len : eN fLen (aCons (eVar 1) aNil) = eN fLen (aCons (eVar 1) aNil) := rfl
  refine wp_bind (wp_rngI (n := Ls.length) (fun k en => ∃ u3 u4 u5, en = ldE n Ls (rowsO n Ls (k * Ls.length)) u3 u4 u5 ∧ ∀ i < k * Ls.length, (hpP n Ls (i / Ls.length, i % Ls.length)).isSome = true) (tone (en1_of (d := FD Ls) rfl (FD_len Ls))) ⟨.un, .un, .un, by rw [Nat.zero_mul], fun i hi => by omega⟩ (by omega) ?_ ?_)
  · rintro k en hk ⟨u3, u4, u5, rfl, g⟩
    refine wp_rngI (n := Ls.length) (fun j en => ∃ u4 u5, en = ldE n Ls (rowsO n Ls (k * Ls.length + j)) (.dat (iD k)) u4 u5 ∧ ∀ i < k * Ls.length + j, (hpP n Ls (i / Ls.length, i % Ls.length)).isSome = true) (en1 := ldE n Ls (rowsO n Ls (k * Ls.length)) (.dat (iD k)) u4 u5) (tone (en1_of (d := FD Ls) rfl (FD_len Ls))) ⟨u4, u5, rfl, g⟩ (by omega) ?_ ?_
    · rintro j en hj ⟨v4, v5, rfl, g⟩
      have hkm : k * Ls.length + j < 25 := by
        have : (k + 1) * Ls.length ≤ 5 * 5 := Nat.mul_le_mul (by omega) (by omega)
        rw [Nat.succ_mul] at this
        omega
      let t := k * Ls.length + j
      let E1 : SV → En := fun u5 => ldE n Ls (rowsO n Ls t) (.dat (iD k)) (.dat (iD j)) u5
      refine wp_asgs (d := opD (hp n (Ls.getD k []) (Ls.getD j []))) (en1 := E1 v5) (call_b (ds := [iD n, tupN (Ls.getD k []), tupN (Ls.getD j [])]) (tcons rfl (tcons (e2_of (d := FD Ls) (e := iD k) rfl rfl (ix_FD hk)) (tone (e2_of (d := FD Ls) (e := iD j) rfl rfl (ix_FD hj))))) (lhelper_ok h6)) ?_
      have pa := pair_at (m := Ls.length) (k := k) hj
      cases q : hp n (Ls.getD k []) (Ls.getD j []) with
      | none =>
        refine wp_out (x := true) (en1 := E1 (.dat .none)) (en2 := E1 (.dat .none)) (d := .none) rfl (fun _ => ⟨rfl, ?_⟩) (fun z => by cases z)
        exact (none_bad hk hj q).symm
      | some h =>
        have hh := hp_lt q
        have q2 : hpP n Ls (t / Ls.length, t % Ls.length) = some h := by
          show hpP n Ls ((k * Ls.length + j) / Ls.length, (k * Ls.length + j) % Ls.length) = _
          rw [pa.1, pa.2]; exact q
        refine wp_no (en1 := E1 (.dat (iD h))) rfl ?_
        let r := (prs Ls.length t).filter fun p => decide (hpP n Ls p = some h)
        have hr : ((rowsAt n Ls t).map fun r => r.map pD)[h]? = some (r.map pD) := by rw [List.getElem?_map, rowsAt_get _ hh]; rfl
        have hrl : (r.map pD).length < 99999 := by
          rw [List.length_map]
          have := List.length_filter_le (fun p => decide (hpP n Ls p = some h)) (prs Ls.length t)
          rw [prs_len] at this
          have ht : t < 25 := hkm
          show (List.filter _ _).length < _
          omega
        refine wp_lap (en1 := ldE n Ls (rowsO n Ls (t + 1)) (.dat (iD k)) (.dat (iD j)) (.dat (iD h))) ?_ ⟨_, _, rfl, fun i hi => ?_⟩
        · refine (appLL_at (i := 2) (en := E1 (.dat (iD h))) (ess := (rowsAt n Ls t).map fun r => r.map pD) (es := r.map pD) (k := h) (d := pD (k, j)) rfl rfl hr rfl hrl).trans ?_
          have e3 : ((rowsAt n Ls t).map fun r => r.map pD).set h (r.map pD ++ [pD (k, j)]) = (rowsAt n Ls (t + 1)).map fun r => r.map pD := by
            rw [rowsAt_succ t q2, List.map_set, List.map_append]
            have : (t / Ls.length, t % Ls.length) = (k, j) := Prod.ext pa.1 pa.2
            rw [this]
            rfl
          rw [e3]
          rfl
        · rcases Nat.lt_or_ge i t with z | z
          · exact g i z
          · have : i = t := by omega
            subst this
            rw [q2]; rfl
    · rintro en ⟨v4, v5, rfl, g⟩
      rw [← Nat.succ_mul] at g ⊢
      exact ⟨_, _, _, rfl, g⟩
  · rintro en ⟨u3, u4, u5, rfl, g⟩
    have ha := some_all g rfl
    have ed : dealtD n Ls = rowsD (dealt n Ls) := by unfold dealtD; rw [if_pos ha]
    rw [ed]
    let R := dealt n Ls
    have hRl : R.length = n := rowsAt_len _
    let E2 : En := ldE n Ls (.dat (.list ((R.map fun r => r.map pD).map PyData.list))) u3 u4 u5
    have fz : eFrz 2 (ldE n Ls (rowsO n Ls (Ls.length * Ls.length)) u3 u4 u5) = .ok (.list ((R.map fun r => r.map pD).map PyData.list), E2) := frz_ll rfl
    refine wp_ret (d := rowsD R) (en1 := E2) (eN_at (ds := [.list (R.map fun r => .tuple (r.map pD))]) (tone_at (el_at ?_)) rfl) rfl
    refine (lc_move (imS_at fz rfl)).trans ?_
    have hc := lc_map (j := 6) (im := fun e => Rs.ok ((R.map fun r => r.map pD).map PyData.list, e)) (m := eN fTuple (aCons (eVar 6) aNil)) (en := E2) (enc := fun r : List (Nat × Nat) => PyData.list (r.map pD)) (xs := R) (f := fun r => PyData.tuple (r.map pD)) (by rw [List.map_map]; rfl) (fun r _ => en1_of (d := .list (r.map pD)) rfl rfl) (by omega) (by show 6 < 6 + 1; omega) rfl
    exact hc
theorem dealt_pairs_ok (H : Lo n Ls) (q : allH n Ls = true) : M_dealt_pairs [iD n, FD Ls] = .ok (rowsD (dealt n Ls)) := by
  refine fn_wp rfl ?_
  let E : SV → En := fun u => [.dat (iD n), .dat (FD Ls), u]
  show Wp (m_dealt_pairs (E .un)) _
  refine wp_seq (en1 := E .un) (dr_of (call_b (ds := [iD n]) (tone rfl) (many_ok H.n1))) ?_
  refine wp_seq (en1 := E .un) (dr_of (call_b (ds := [iD n, FD Ls]) (tcons rfl (tone rfl)) (want_lots_ok H))) ?_
  have e := dealt_to_ok H
  unfold dealtD at e
  rw [if_pos q] at e
  refine wp_asgs (d := rowsD (dealt n Ls)) (en1 := E .un) (call_b (ds := [iD n, FD Ls]) (tcons rfl (tone rfl)) e) ?_
  refine wp_seq (en1 := E (.dat (rowsD (dealt n Ls)))) (dropW (e2_of (d := rowsD (dealt n Ls)) (e := .none) rfl rfl rfl)) ?_
  exact wp_ret (d := rowsD (dealt n Ls)) (en1 := E (.dat (rowsD (dealt n Ls)))) rfl rfl
theorem dealt_pairs_err (H : Lo n Ls) (q : allH n Ls = false) : M_dealt_pairs [iD n, FD Ls] = .err "NotUsable" [("at", .int (-1)), ("word", .str "lots")] := by
  have e := dealt_to_ok H
  unfold dealtD at e
  rw [if_neg (by rw [q]; exact Bool.false_ne_true)] at e
  let E : SV → En := fun u => [.dat (iD n), .dat (FD Ls), u]
  have e1 : mDrop (eCall M_want_many (aCons (eVar 0) aNil)) (E .un) = .ok (.nx, E .un) := dr_of (call_b (ds := [iD n]) (tone rfl) (many_ok H.n1))
  have e2' : mDrop (eCall M_want_lots (aCons (eVar 0) (aCons (eVar 1) aNil))) (E .un) = .ok (.nx, E .un) := dr_of (call_b (ds := [iD n, FD Ls]) (tcons rfl (tone rfl)) (want_lots_ok H))
  have e3 : mAsg (gmName 2) (eCall M_dealt_to (aCons (eVar 0) (aCons (eVar 1) aNil))) (E .un) = .ok (.nx, E (.dat .none)) := asg_at (call_b (ds := [iD n, FD Ls]) (tcons rfl (tone rfl)) e)
  show ((endOf (m_dealt_pairs (E .un))).bind fun p => Rs.ok p.1) = _
  unfold m_dealt_pairs
  rw [mSeq_nx e1, mSeq_nx e2', mSeq_nx e3]
  rfl
end
end K24
end
section
set_option Elab.async false
set_option linter.all false
set_option maxRecDepth 100000
set_option maxHeartbeats 4000000
namespace K24
open PySem PySem.Spec PyProof.Rows L2 Mir
section
variable {n h m : Nat} {a b : List Nat} {Ls : List (List Nat)}
theorem sum_add2 {α : Type} (f g : α → Nat) (xs : List α) : (xs.map fun x => f x + g x).sum = (xs.map f).sum + (xs.map g).sum := by
  induction xs with
  | nil => rfl
  | cons x xs ih => rw [List.map_cons, List.map_cons, List.map_cons, List.sum_cons, List.sum_cons, List.sum_cons, ih]; omega
theorem sum_none {α : Type} (f : α → Nat) (xs : List α) (q : ∀ x ∈ xs, f x = 0) : (xs.map f).sum = 0 := by
  induction xs with
  | nil => rfl
  | cons x xs ih => rw [List.map_cons, List.sum_cons, q x List.mem_cons_self, ih fun y hy => q y (List.mem_cons_of_mem _ hy)]
theorem sum_at (c h0 : Nat) : ∀ n, h0 < n → ((List.range n).map fun h => if some h0 = some h then c else 0).sum = c
  | 0, q => by omega
  | n + 1, q => by
    rw [List.range_succ, List.map_append, List.sum_append]
    rcases Nat.lt_or_ge h0 n with z | z
    · rw [sum_at c h0 n z]
      show c + ((if some h0 = some n then c else 0) + 0) = c
      rw [if_neg (fun e => by have := Option.some.inj e; omega)]
      rfl
    · have : h0 = n := by omega
      subst this
      rw [sum_none _ _ fun h hh => if_neg fun e => by have := Option.some.inj e; have := List.mem_range.mp hh; omega]
      show 0 + ((if some h0 = some h0 then c else 0) + 0) = c
      rw [if_pos rfl]
      omega
theorem part_sum (o : Nat × Nat → Option Nat) (f : Nat × Nat → Nat) : ∀ L : List (Nat × Nat), (∀ p ∈ L, ∃ h, o p = some h ∧ h < n) → ((List.range n).map fun h => ((L.filter fun p => decide (o p = some h)).map f).sum).sum = (L.map f).sum
  | [], _ => sum_none _ _ fun _ _ => rfl
  | p :: L, g => by
    obtain ⟨h0, e0, l0⟩ := g p List.mem_cons_self
    have ih := part_sum o f L fun q hq => g q (List.mem_cons_of_mem _ hq)
    have e : ((List.range n).map fun h => (((p :: L).filter fun p => decide (o p = some h)).map f).sum) = (List.range n).map fun h => (if some h0 = some h then f p else 0) + ((L.filter fun p => decide (o p = some h)).map f).sum := by
      refine List.map_congr_left fun h _ => ?_
      rw [List.filter_cons, e0]
      by_cases z : h0 = h
      · subst z
        rw [if_pos (decide_eq_true rfl), if_pos rfl]
        rfl
      · have z' : ¬ (some h0 = some h) := fun e => z (Option.some.inj e)
        rw [if_neg (by rw [decide_eq_true_eq]; exact z'), if_neg z', Nat.zero_add]
    rw [e, sum_add2, sum_at _ _ _ l0, ih, List.map_cons, List.sum_cons]
def pre (b : List Nat) (j : Nat) : Nat := ((List.range j).map fun i => b.getD i 0).sum
theorem pre_succ (b : List Nat) (j : Nat) : pre b (j + 1) = pre b j + b.getD j 0 := by
  unfold pre
  rw [List.range_succ, List.map_append, List.sum_append]
  rfl
theorem pre_all (b : List Nat) : pre b b.length = b.sum := by
  unfold pre
  congr 1
  refine List.ext_getElem (by rw [List.length_map, List.length_range]) fun i h1 h2 => ?_
  rw [List.getElem_map, List.getElem_range, List.getD_eq_getElem?_getD, List.getElem?_eq_getElem h2]
  rfl
def pr (a b : List Nat) (p : Nat × Nat) : Nat := a.getD p.1 0 * b.getD p.2 0
def ptot (a b : List Nat) (m t : Nat) : Nat := ((prs m t).map (pr a b)).sum
theorem ptot_succ (t : Nat) : ptot a b m (t + 1) = ptot a b m t + pr a b (t / m, t % m) := by
  unfold ptot
  rw [prs_succ, List.map_append, List.sum_append]
  rfl
theorem ptot_row (k : Nat) : ∀ j ≤ m, ptot a b m (k * m + j) = ptot a b m (k * m) + a.getD k 0 * pre b j
  | 0, _ => rfl
  | j + 1, hj => by
    have e := pair_at (m := m) (k := k) (j := j) (by omega)
    rw [← Nat.add_assoc, ptot_succ, ptot_row k j (by omega), e.1, e.2, pre_succ, Nat.mul_add]
    rw [show pr a b (k, j) = a.getD k 0 * b.getD j 0 from rfl]
    omega
theorem ptot_all : ∀ k, ptot a b m (k * m) = pre a k * pre b m
  | 0 => by
    rw [Nat.zero_mul]
    show 0 = 0 * _
    rw [Nat.zero_mul]
  | k + 1 => by rw [Nat.succ_mul, ptot_row k m (Nat.le_refl _), ptot_all k, pre_succ, Nat.add_mul]
def sumsR (R : List (List (Nat × Nat))) (a b : List Nat) : List Nat := R.map fun r => (r.map (pr a b)).sum % 2
theorem sum_mod2 (xs : List Nat) : (xs.map (· % 2)).sum % 2 = xs.sum % 2 := by
  induction xs with
  | nil => rfl
  | cons x xs ih => rw [List.map_cons, List.sum_cons, List.sum_cons]; omega
theorem sums_par (H : Lo n Ls) (q : allH n Ls = true) (ha : a.length = Ls.length) (hb : b.length = Ls.length) : (sumsR (dealt n Ls) a b).sum % 2 = a.sum % 2 * (b.sum % 2) := by
  have e1 : sumsR (dealt n Ls) a b = ((dealt n Ls).map fun r => (r.map (pr a b)).sum).map (· % 2) := by unfold sumsR; rw [List.map_map]; rfl
  have e2 : ((dealt n Ls).map fun r => (r.map (pr a b)).sum) = (List.range n).map fun h => (((prs Ls.length (Ls.length * Ls.length)).filter fun p => decide (hpP n Ls p = some h)).map (pr a b)).sum := by
    unfold dealt rowsAt
    rw [List.map_map]
    rfl
  rw [e1, sum_mod2, e2, part_sum (hpP n Ls) (pr a b) (prs Ls.length (Ls.length * Ls.length)) fun p hp => ?_]
  · show ptot a b Ls.length (Ls.length * Ls.length) % 2 = _
    rw [ptot_all]
    have : pre a Ls.length = a.sum := by rw [← ha]; exact pre_all a
    rw [this]
    have : pre b Ls.length = b.sum := by rw [← hb]; exact pre_all b
    rw [this, Nat.mul_mod]
    have h1 : a.sum % 2 < 2 := Nat.mod_lt _ (by decide)
    have h2 : b.sum % 2 < 2 := Nat.mod_lt _ (by decide)
    rcases (by omega : a.sum % 2 = 0 ∨ a.sum % 2 = 1) with z | z <;> rcases (by omega : b.sum % 2 = 0 ∨ b.sum % 2 = 1) with y | y <;> rw [z, y]
  · unfold allH at q
    rw [List.all_eq_true] at q
    obtain ⟨h, e⟩ := Option.isSome_iff_exists.mp (q p hp)
    exact ⟨h, e, hp_lt e⟩
/-- the dealt rows: places of lots, not too many -/
structure Rw (m n : Nat) (R : List (List (Nat × Nat))) : Prop where
  len : R.length ≤ 6
  row : ∀ r ∈ R, r.length ≤ 25
  at_ : ∀ r ∈ R, ∀ p ∈ r, p.1 < m ∧ p.2 < m
theorem dealt_rw (H : Lo n Ls) : Rw Ls.length n (dealt n Ls) := by
  have h5 := H.five
  have sq : Ls.length * Ls.length ≤ 5 * 5 := Nat.mul_le_mul h5 h5
  refine ⟨by rw [show (dealt n Ls).length = n from rowsAt_len _]; exact H.n6, fun r hr => ?_, fun r hr p hp => ?_⟩
  · unfold dealt rowsAt at hr
    obtain ⟨h, _, rfl⟩ := List.mem_map.mp hr
    have := List.length_filter_le (fun p => decide (hpP n Ls p = some h)) (prs Ls.length (Ls.length * Ls.length))
    rw [prs_len] at this
    omega
  · unfold dealt rowsAt at hr
    obtain ⟨h, _, rfl⟩ := List.mem_map.mp hr
    have hp := (List.mem_filter.mp hp).1
    unfold prs at hp
    obtain ⟨i, hi, rfl⟩ := List.mem_map.mp hp
    have hi := List.mem_range.mp hi
    have m0 := H.one
    exact ⟨Nat.div_lt_of_lt_mul hi, Nat.mod_lt _ m0⟩
theorem bit_prod (ha : ∀ x ∈ a, x ≤ 1) (k : Nat) : a.getD k 0 ≤ 1 := by
  rw [List.getD_eq_getElem?_getD]
  cases q : a[k]? with
  | none => exact Nat.zero_le _
  | some y => exact ha y (List.mem_of_getElem? q)
theorem pr_at {en : En} {i j : Nat} {ea eb ek ej : Em} (ha : ∀ x ∈ a, x ≤ 1) (hb : ∀ x ∈ b, x ≤ 1) (h1 : ea en = .ok (tupN a, en)) (h2 : eb en = .ok (tupN b, en)) (h3 : ek en = .ok (iD i, en)) (h4 : ej en = .ok (iD j, en)) (hi : i < a.length) (hj : j < b.length) : e2 fMul (e2 fIx ea ek) (e2 fIx eb ej) en = .ok (iD (pr a b (i, j)), en) := by
  have := bit_prod ha i
  have := bit_prod hb j
  exact e2_of (d := iD (a.getD i 0)) (e := iD (b.getD j 0)) (e2_of (d := tupN a) (e := iD i) h1 h3 (ix_tupA a i hi)) (e2_of (d := tupN b) (e := iD j) h2 h4 (ix_tupA b j hj)) (fMul_N (by omega) (by omega))
/-- the law's sums -/
theorem law_sums_ok {R : List (List (Nat × Nat))} (H : Rw m n R) (ha : ∀ x ∈ a, x ≤ 1) (hb : ∀ x ∈ b, x ≤ 1) (la : a.length = m) (lb : b.length = m) : M__law_sums [rowsD R, tupN a, tupN b] = .ok (tupN (sumsR R a b)) := by
  refine fn_wp rfl ?_
  let E : SV → SV → SV → SV → En := fun u3 u4 u5 u6 => [.dat (rowsD R), .dat (tupN a), .dat (tupN b), u3, u4, u5, u6]
  show Wp (m__law_sums (E .un .un .un .un)) _
  refine wp_seq (en1 := E (.own (.lst [])) .un .un .un) (asgO_at (ds := []) (en1 := E .un .un .un .un) rfl) ?_
  refine wp_bind (wp_iterI (fun r : List (Nat × Nat) => PyData.tuple (r.map pD)) R (fun i en => ∃ u4 u5 u6, en = E (.own (.lst ((sumsR (R.take i) a b).map iD))) u4 u5 u6) (en1 := E (.own (.lst [])) .un .un .un) (imS_at (d := rowsD R) rfl rfl) ⟨_, _, _, rfl⟩ ?_ ?_)
  · rintro i en hi ⟨u4, u5, u6, rfl⟩
    have hr : R[i] ∈ R := List.getElem_mem hi
    have hrl := H.row _ hr
    have hra := H.at_ _ hr
    have tk : R.take (i + 1) = R.take i ++ [R[i]] := by rw [List.take_succ, List.getElem?_eq_getElem hi]; rfl
    rw [tk]
    generalize R[i] = r at hr hrl hra
    refine ⟨E (.own (.lst ((sumsR (R.take i) a b).map iD))) (.dat (.tuple (r.map pD))) u5 u6, rfl, ?_⟩
    let O : SV := .own (.lst ((sumsR (R.take i) a b).map iD))
    let V : SV := .dat (.tuple (r.map pD))
    refine wp_asgs (d := iD 0) (en1 := E O V u5 u6) rfl ?_
    refine wp_bind (wp_iterI pD r (fun j en => ∃ u6, en = E O V (.dat (iD ((r.take j).map (pr a b)).sum)) u6) (en1 := E O V (.dat (iD 0)) u6) (imS_at (d := .tuple (r.map pD)) rfl rfl) ⟨_, rfl⟩ ?_ ?_)
    · rintro j en hj ⟨u6, rfl⟩
      have hp : r[j] ∈ r := List.getElem_mem hj
      have hpa := hra _ hp
      have tk : r.take (j + 1) = r.take j ++ [r[j]] := by rw [List.take_succ, List.getElem?_eq_getElem hj]; rfl
      rw [tk, List.map_append, List.sum_append]
      generalize r[j] = p at hp hpa
      let S : Nat := ((r.take j).map (pr a b)).sum
      refine ⟨E O V (.dat (iD S)) (.dat (pD p)), rfl, ?_⟩
      let E1 : En := E O V (.dat (iD S)) (.dat (pD p))
      refine wp_asg (d := iD (S + (pr a b p + 0))) (en1 := E1) (e2_of (d := iD S) (e := iD (pr a b p)) rfl (pr_at (i := p.1) (j := p.2) ha hb rfl rfl (e2_of (d := pD p) (e := iD 0) rfl rfl rfl) (e2_of (d := pD p) (e := iD 1) rfl rfl rfl) (by omega) (by omega)) (fAdd_N _ _)) ⟨_, rfl⟩
    · rintro en ⟨u6, rfl⟩
      rw [List.take_length]
      let S : Nat := (r.map (pr a b)).sum
      refine wp_lap (en1 := E (.own (.lst (((sumsR (R.take i) a b) ++ [S % 2]).map iD))) V (.dat (iD S)) u6) ?_ ⟨V, .dat (iD S), u6, ?_⟩
      · refine (app_at (i := 3) (en := E O V (.dat (iD S)) u6) (en1 := E O V (.dat (iD S)) u6) (ds0 := (sumsR (R.take i) a b).map iD) (ds := (sumsR (R.take i) a b).map iD) (d := iD (S % 2)) rfl (e2_of (d := iD S) (e := iD 2) (en1_of (d := iD S) rfl fInt_int) rfl (fMod_N (by decide))) rfl ?_).trans ?_
        · rw [List.length_map]
          unfold sumsR
          rw [List.length_map, List.length_take]
          have := H.len
          omega
        · rw [List.map_append]; rfl
      · have : sumsR (R.take i ++ [r]) a b = sumsR (R.take i) a b ++ [S % 2] := by unfold sumsR; rw [List.map_append]; rfl
        rw [this]
  · rintro en ⟨u4, u5, u6, rfl⟩
    rw [List.take_length]
    exact wp_ret (d := tupN (sumsR R a b)) (en1 := E (.dat (.list ((sumsR R a b).map iD))) u4 u5 u6) (eN_at (ds := [.list ((sumsR R a b).map iD)]) (tone_at rfl) rfl) rfl
theorem want_bits {en : En} {w : Str} {i : Nat} (hx : ∀ x ∈ a, x ≤ 1) (h1 : en[i]? = some (.dat (tupN a))) (h2 : en[1]? = some (.dat (FD Ls))) (hl : a.length = Ls.length) (h5 : Ls.length ≤ 5) : mDrop (eCall M_a_want (aCons (eAnd (eCall M_is_bits (aCons (eVar i) aNil)) (e2 fEq (eN fLen (aCons (eVar i) aNil)) (eN fLen (aCons (eVar 1) aNil)))) (aCons (eC (.str w)) aNil))) en = .ok (.nx, en) := by
  have v1 : eVar i en = .ok (tupN a, en) := by rw [eVar_ap, h1]
  have v2 : eVar 1 en = .ok (FD Ls, en) := by rw [eVar_ap, h2]
  refine dropW (eAnd_b (x := true) (y := true) (call_b (ds := [tupN a]) (tone v1) (bits_N hx (by omega))) fun _ => e2_of (d := iD a.length) (e := iD Ls.length) (en1_of (d := tupN a) v1 (fLen_tupN a)) (en1_of (d := FD Ls) v2 (FD_len Ls)) (by rw [fEq_N, decide_eq_true hl]))
theorem product_sums_ok (H : Lo n Ls) (q : allH n Ls = true) (ha : ∀ x ∈ a, x ≤ 1) (hb : ∀ x ∈ b, x ≤ 1) (la : a.length = Ls.length) (lb : b.length = Ls.length) : M_product_sums [iD n, FD Ls, tupN a, tupN b] = .ok (tupN (sumsR (dealt n Ls) a b)) := by
  have W := dealt_rw H
  have h5 := H.five
  refine fn_wp rfl ?_
  let E : SV → En := fun u => [.dat (iD n), .dat (FD Ls), .dat (tupN a), .dat (tupN b), u, .un, .un, .un]
  show Wp (m_product_sums (E .un)) _
  refine wp_asgs (d := rowsD (dealt n Ls)) (en1 := E .un) (call_b (ds := [iD n, FD Ls]) (tcons rfl (tone rfl)) (dealt_pairs_ok H q)) ?_
  generalize dealt n Ls = R at W
  let E1 : En := E (.dat (rowsD R))
  refine wp_seq (en1 := E1) (want_bits ha rfl rfl la h5) ?_
  refine wp_seq (en1 := E1) (want_bits hb rfl rfl lb h5) ?_
  refine wp_ret (d := tupN (sumsR R a b)) (en1 := E1) (eN_at (ds := [.list ((sumsR R a b).map iD)]) (tone_at (el_at ?_)) rfl) rfl
  have hc := lc_map (j := 5) (im := imSeq (eVar 4)) (m := e2 fMod (eN fSum (aCons (eL (lLc (imSeq (eVar 5)) [6, 7] (gmTup [6, 7]) tmYes (e2 fMul (e2 fIx (eVar 2) (eVar 6)) (e2 fIx (eVar 3) (eVar 7))))) aNil)) (eC (.int 2))) (en := E1) (enc := fun r : List (Nat × Nat) => PyData.tuple (r.map pD)) (xs := R) (f := fun r => iD ((r.map (pr a b)).sum % 2)) (imS_at (d := rowsD R) rfl rfl) (fun r hr => ?_) (by have := W.len; omega) (by show 5 < 8; omega) rfl
  · refine hc.trans ?_
    unfold sumsR
    rw [List.map_map]
    rfl
  · let E2 : En := [.dat (iD n), .dat (FD Ls), .dat (tupN a), .dat (tupN b), .dat (rowsD R), .dat (.tuple (r.map pD)), .un, .un]
    have h2 := lc_mapG (en := E2) (vs := [6, 7]) (im := imSeq (eVar 5)) (gm := gmTup [6, 7]) (m := e2 fMul (e2 fIx (eVar 2) (eVar 6)) (e2 fIx (eVar 3) (eVar 7))) (enc := pD) (xs := r) (f := fun p => iD (pr a b p)) (fun p => [.dat (iD n), .dat (FD Ls), .dat (tupN a), .dat (tupN b), .dat (rowsD R), .dat (.tuple (r.map pD)), .dat (iD p.1), .dat (iD p.2)]) (imS_at (d := .tuple (r.map pD)) rfl rfl) (fun p _ => rfl) (fun p hp => pr_at (i := p.1) (j := p.2) ha hb rfl rfl rfl rfl (by have := W.at_ r hr p hp; omega) (by have := W.at_ r hr p hp; omega)) (fun p _ => rfl) rfl (by have := W.row r hr; omega) rfl
    have e3 : (r.map fun p => iD (pr a b p)) = (r.map (pr a b)).map iD := by rw [List.map_map]; rfl
    rw [e3] at h2
    exact e2_of (d := iD (r.map (pr a b)).sum) (e := iD 2) (en1_of (d := .list ((r.map (pr a b)).map iD)) (el_at h2) (fSum_N _)) rfl (fMod_N (by decide))
end
end K24
end
section
set_option Elab.async false
set_option linter.all false
set_option maxRecDepth 100000
set_option maxHeartbeats 4000000
namespace K24
open PySem PySem.Spec PyProof.Rows L2 Mir
section
variable {xs : List Int} {n h m i : Nat} {a b : List Nat} {Ls : List (List Nat)} {en en1 : En} {v : Dv} {w c : Str} {fs : List (Str × D)} {M : List D → Rs D} {ds : List D} {d : D}
theorem call_err {a : Am} (ha : a en = .ok (ds, en1)) (hM : M ds = .err c fs) : eCall M a en = .err c fs := by
  rw [eCall_ap, ha, bind_ok]
  dsimp only
  rw [hM]
  rfl
theorem asg_err {m : Em} {g : Gm} {b : Sm} (h : m en = .err c fs) : mSeq (mAsg g m) b en = .err c fs := by rw [mSeq_ap, mAsg_ap, h]; rfl
theorem drop_err {m : Em} {b : Sm} (h : m en = .err c fs) : mSeq (mDrop m) b en = .err c fs := by rw [mSeq_ap, mDrop_ap, h]; rfl
theorem fn_err {m : Sm} {n k : Nat} (hl : ds.length = k) (h : m (enOf n ds) = .err c fs) : fnM n k m ds = .err c fs := by
  unfold fnM
  rw [if_pos hl, h]
  rfl
/-- what a refusal says -/
abbrev noW (w : Str) : List (Str × D) := [("at", .int (-1)), ("word", .str w)]
theorem want_err {m : Em} {b : Sm} (h : m en = .ok (.bool false, en)) : mSeq (mDrop (eCall M_a_want (aCons m (aCons (eC (.str w)) aNil)))) b en = .err "NotUsable" (noW w) := drop_err (call_err (ds := [.bool false, .str w]) (tcons h (tone rfl)) (want_false w))
theorem xAnd_t {A B : List (Str × D) → Rs D} {fs : List (Str × D)} (h : A fs = .ok (.bool true)) : xAnd A B fs = B fs := by
  unfold xAnd
  rw [h]
  rfl
theorem refused_err (w : Str) (hw : PyData.strOk w = true) : M__law_refused [.str w] (.err "NotUsable" [("at", .int (-1)), ("word", .str w)]) = .ok (.bool true) := by
  let fs : List (Str × D) := [("at", .int (-1)), ("word", .str w)]
  have a1 : xF "at" fs = .ok (.int (-1)) := by kernel_rfl
  have a2 : xF "word" fs = .ok (.str w) := by kernel_rfl
  have a3 : xStr [(0, w)] 0 fs = .ok (.str w) := rfl
  have e1 : x2 fEq (xF "word") (xStr [(0, w)] 0) fs = .ok (.bool true) := by unfold x2; rw [a2, bind_ok, a3, bind_ok, fEq_str hw hw, decide_eq_true rfl]
  have e2 : xIsi .int (xF "at") fs = .ok (.bool true) := by unfold xIsi; rw [a1, bind_ok]; rfl
  have e3 : xNot (xIsi .bool (xF "at")) fs = .ok (.bool true) := by unfold xNot xIsi; rw [a1, bind_ok]; rfl
  have e4 : x2 fEq (xF "at") (fun _ => .ok (.int (-1))) fs = .ok (.bool true) := by unfold x2; rw [a1, bind_ok, bind_ok, fEq_int]; rfl
  show pickH [([(("NotUsable" : Str), true)], (xAnd (x2 fEq (xF "word") (xStr [(0, w)] 0)) (xAnd (xIsi .int (xF "at")) (xAnd (xNot (xIsi .bool (xF "at"))) (x2 fEq (xF "at") (fun _ => .ok (.int (-1))))))))] "NotUsable" fs = _
  unfold pickH
  rw [if_pos List.mem_cons_self, xAnd_t e1, xAnd_t e2, xAnd_t e3, e4]
theorem ask_ok {m : Em} (he : en[0]? = some (.own (dr xs v))) (h : m (wipeO en) = .err "NotUsable" (noW w)) (hw : PyData.strOk w = true := by kernel_rfl) : eAsk M__law_refused 0 (aCons (eC (.str w)) aNil) m en = .ok (.bool true, en) := by
  unfold eAsk
  have e1 : aCons (eC (.str w)) aNil en = .ok ([.str w], en) := rfl
  rw [e1, bind_ok]
  dsimp only
  have e2 : tlAt en 0 = some [.list (xs.map PyData.int), iD v.at_, iD v.p, iD v.s] := by unfold tlAt; rw [he]; rfl
  rw [e2]
  dsimp only
  rw [h]
  show ((M__law_refused [.str w] (.err "NotUsable" (noW w))).calm.bind _) = _
  rw [refused_err w hw]
  rfl
theorem ask_call {a : Am} (he : en[0]? = some (.own (dr xs v))) (ha : a (wipeO en) = .ok (ds, en1)) (hM : M ds = .err "NotUsable" (noW w)) (hw : PyData.strOk w = true := by kernel_rfl) : eAsk M__law_refused 0 (aCons (eC (.str w)) aNil) (eCall M a) en = .ok (.bool true, en) := ask_ok he (call_err ha hM) hw
theorem product_sums_err (d e : D) (q : M_dealt_pairs [iD n, FD Ls] = .err c fs) : M_product_sums [iD n, FD Ls, d, e] = .err c fs :=
  fn_err rfl (asg_err (call_err (ds := [iD n, FD Ls]) (en1 := [.dat (iD n), .dat (FD Ls), .dat d, .dat e, .un, .un, .un, .un]) (tcons rfl (tone rfl)) q))
theorem opD_sm (o : Option Nat) : smB 5 (opD o) = true := by cases o with
  | none => exact smB_n 5
  | some h => exact smB_i 5 h
theorem rows_sm {R : List (List (Nat × Nat))} (H : Rw m n R) : smB 5 (rowsD R) = true :=
  tup_sm (by rw [List.length_map]; have := H.len; omega) fun d hd => by
    obtain ⟨r, hr, rfl⟩ := List.mem_map.mp hd
    refine tup_sm (by rw [List.length_map]; have := H.row r hr; omega) fun e he => ?_
    obtain ⟨p, hp, rfl⟩ := List.mem_map.mp he
    refine tup_sm (by show 2 ≤ 1000; omega) fun z hz => ?_
    rcases List.mem_cons.mp hz with rfl | hz
    · exact smB_i _ _
    · rw [List.mem_singleton.mp hz]; exact smB_i _ _
theorem getD_mem {k : Nat} (hk : k < Ls.length) : Ls.getD k [] ∈ Ls := by
  rw [List.getD_eq_getElem?_getD, List.getElem?_eq_getElem hk]
  exact List.getElem_mem hk
abbrev prE (xs : List Int) (v : Dv) (n : Nat) (Ls : List (List Nat)) (u3 u4 u5 u6 u7 u8 : SV) : En := [.own (dr xs v), .dat (iD n), .dat (FD Ls), u3, u4, u5, u6, u7, u8]
theorem law_products_ok (hx : Sh xs) (h : Ok v) (H : Lo n Ls) : ∃ v', M__law_products (dr xs v) [iD n, FD Ls] = .ok (.bool true, dr xs v') ∧ Ok v' := by
  have h5 := H.five
  obtain ⟨d, mo', e, v', rfl, rfl, q1⟩ := fnD_ex (m := m__law_products) (n := 9) (k := 3) (mo := dr xs v) (ds := [iD n, FD Ls]) (P := fun d mo' => ∃ v', d = .bool true ∧ mo' = dr xs v' ∧ Ok v') rfl (by
    show Wp (m__law_products (prE xs v n Ls .un .un .un .un .un .un)) _
    obtain ⟨a, v1, e1, h, la, ha⟩ := dbits (k := Ls.length) (i := 0) (en := prE xs v n Ls .un .un .un .un .un .un) (a := aCons (eN fLen (aCons (eVar 2) aNil)) aNil) hx h (by omega) rfl (tone (en1_of (d := FD Ls) rfl (FD_len Ls)))
    let A : SV := .dat (tupN a)
    refine wp_seq (en1 := prE xs v1 n Ls A .un .un .un .un .un) (asg_at e1) ?_
    obtain ⟨b, v2, e2', h, lb, hb⟩ := dbits (k := Ls.length) (i := 0) (en := prE xs v1 n Ls A .un .un .un .un .un) (a := aCons (eN fLen (aCons (eVar 2) aNil)) aNil) hx h (by omega) rfl (tone (en1_of (d := FD Ls) rfl (FD_len Ls)))
    let B : SV := .dat (tupN b)
    refine wp_seq (en1 := prE xs v2 n Ls A B .un .un .un .un) (asg_at e2') ?_
    refine wp_bind (wp_rngI (n := Ls.length) (fun _ en => ∃ u5 u8, en = prE xs v2 n Ls A B u5 .un .un u8) (en1 := prE xs v2 n Ls A B .un .un .un .un) (tone (en1_of (d := FD Ls) rfl (FD_len Ls))) ⟨.un, .un, rfl⟩ (by omega) ?_ ?_)
    · rintro k en hk ⟨u5, u8, rfl⟩
      refine wp_rngI (n := Ls.length) (fun _ en => ∃ u8, en = prE xs v2 n Ls A B (.dat (iD k)) .un .un u8) (en1 := prE xs v2 n Ls A B (.dat (iD k)) .un .un u8) (tone (en1_of (d := FD Ls) rfl (FD_len Ls))) ⟨u8, rfl⟩ (by omega) ?_ ?_
      · rintro j en hj ⟨u8, rfl⟩
        let E : En := prE xs v2 n Ls A B (.dat (iD k)) .un .un (.dat (iD j))
        have a3 : aCons (eVar 1) (aCons (e2 fIx (eVar 2) (eVar 5)) (aCons (e2 fIx (eVar 2) (eVar 8)) aNil)) E = .ok ([iD n, tupN (Ls.getD k []), tupN (Ls.getD j [])], E) := tcons rfl (tcons (e2_of (d := FD Ls) (e := iD k) rfl rfl (ix_FD hk)) (tone (e2_of (d := FD Ls) (e := iD j) rfl rfl (ix_FD hj))))
        refine wp_if (x := false) (en1 := E) (nt_ok (same_at (d := opD (hp n (Ls.getD k []) (Ls.getD j []))) (call_b a3 (helper_ok H.n1 H.n6 (H.fit _ (getD_mem hk)) (H.fit _ (getD_mem hj)))) (call_b a3 (lhelper_ok H.n6)) (opD_sm _))) (fun q => by cases q) (fun _ => wp_next ⟨_, rfl⟩)
      · rintro en ⟨u8, rfl⟩
        exact ⟨_, _, rfl⟩
    · rintro en ⟨u5, u8, rfl⟩
      let E : SV → SV → En := fun u6 u7 => prE xs v2 n Ls A B u5 u6 u7 u8
      refine wp_asgs (d := dealtD n Ls) (en1 := E .un .un) (call_b (ds := [iD n, FD Ls]) (tcons rfl (tone rfl)) (law_dealt_ok H)) ?_
      cases q : allH n Ls with
      | false =>
        have dn : dealtD n Ls = .none := by unfold dealtD; rw [if_neg (by rw [q]; exact Bool.false_ne_true)]
        rw [dn]
        have e0 := dealt_pairs_err H q
        let E1 : En := E (.dat .none) .un
        refine wp_out (x := true) (en1 := E1) (en2 := E1) (d := .bool true) rfl (fun _ => ⟨?_, _, _, rfl, rfl, v2, rfl, rfl, h⟩) (fun z => by cases z)
        exact eAnd_b (x := true) (y := true) (ask_call (xs := xs) (v := v2) (ds := [iD n, FD Ls]) (en1 := wipeO E1) rfl (tcons rfl (tone rfl)) e0) fun _ => eAnd_b (x := true) (y := true) (ask_call (xs := xs) (v := v2) (ds := [iD n, FD Ls, tupN a, tupN b]) (en1 := wipeO E1) rfl (tcons rfl (tcons rfl (tcons rfl (tone rfl)))) (product_sums_err _ _ e0)) fun _ => ask_call (xs := xs) (v := v2) (ds := [iD n, FD Ls, tupN a, .none]) (en1 := wipeO E1) rfl (tcons rfl (tcons rfl (tcons rfl (tone rfl)))) (product_sums_err _ _ e0)
      | true =>
        have dn : dealtD n Ls = rowsD (dealt n Ls) := by unfold dealtD; rw [if_pos q]
        rw [dn]
        have W := dealt_rw H
        let D6 : SV := .dat (rowsD (dealt n Ls))
        refine wp_no (en1 := E D6 .un) (b_of (e2_of (d := rowsD (dealt n Ls)) (e := .none) rfl rfl rfl)) ?_
        refine wp_no (en1 := E D6 .un) (nt_ok (same_at (d := rowsD (dealt n Ls)) (call_b (ds := [iD n, FD Ls]) (tcons rfl (tone rfl)) (dealt_pairs_ok H q)) rfl (rows_sm W))) ?_
        let S := sumsR (dealt n Ls) a b
        have Sl : S.length ≤ 6 := by show (sumsR _ _ _).length ≤ 6; unfold sumsR; rw [List.length_map]; exact W.len
        refine wp_asgs (d := tupN S) (en1 := E D6 .un) (call_b (ds := [iD n, FD Ls, tupN a, tupN b]) (tcons rfl (tcons rfl (tcons rfl (tone rfl)))) (product_sums_ok H q ha hb la lb)) ?_
        let E2 : En := E D6 (.dat (tupN S))
        refine wp_no (en1 := E2) (nt_ok (same_at (d := tupN S) rfl (call_b (ds := [rowsD (dealt n Ls), tupN a, tupN b]) (tcons rfl (tcons rfl (tone rfl))) (law_sums_ok W ha hb la lb)) (nats_sm 4 _ (by omega)))) ?_
        have p2 : ∀ (z : List Nat) (k : Nat), E2[k]? = some (.dat (tupN z)) → e2 fMod (eN fInt (aCons (eN fSumT (aCons (eVar k) aNil)) aNil)) (eC (.int 2)) E2 = .ok (iD (z.sum % 2), E2) := fun z k hk => e2_of (d := iD z.sum) (e := iD 2) (en1_of (d := iD z.sum) (en1_of (d := tupN z) (by rw [eVar_ap, hk]) (sumT_N z)) fInt_int) rfl (fMod_N (by decide))
        have m2 : ∀ z : List Nat, z.sum % 2 < 2 ^ 62 := fun z => by omega
        refine wp_no (en1 := E2) (b_of (e2_of (d := iD (S.sum % 2)) (e := iD (a.sum % 2 * (b.sum % 2))) (p2 S 7 rfl) (e2_of (d := iD (a.sum % 2)) (e := iD (b.sum % 2)) (p2 a 3 rfl) (p2 b 4 rfl) (fMul_N (m2 a) (m2 b))) (by rw [fNe_N, sums_par H q la lb, decide_eq_true rfl]; rfl))) ?_
        have T2 : (sumsR (dealt n Ls) b a).length ≤ 6 := by unfold sumsR; rw [List.length_map]; exact W.len
        exact wp_ret (d := .bool true) (en1 := E2) (same_at (d := tupN (sumsR (dealt n Ls) b a)) (call_b (ds := [iD n, FD Ls, tupN b, tupN a]) (tcons rfl (tcons rfl (tcons rfl (tone rfl)))) (product_sums_ok H q hb ha lb la)) (call_b (ds := [rowsD (dealt n Ls), tupN b, tupN a]) (tcons rfl (tcons rfl (tone rfl))) (law_sums_ok W hb ha lb la)) (nats_sm 4 _ (by omega))) ⟨_, _, rfl, rfl, v2, rfl, rfl, h⟩)
  exact ⟨v', e, q1⟩
end
end K24
end
section
set_option Elab.async false
set_option linter.all false
set_option maxRecDepth 100000
set_option maxHeartbeats 4000000
namespace K24
open PySem PySem.Spec PyProof.Rows L2 Mir
section
variable {xs : List Int} {n h m i : Nat} {L : List Nat} {Ls : List (List Nat)} {en en1 : En} {v : Dv}
theorem fit_snoc : ∀ {L : List Nat} {a : Int}, fitL n a L = true → (∀ x ∈ L, x < h) → a < (h : Int) → h < n → fitL n a (L ++ [h]) = true
  | [], a, _, _, q, q2 => by
    show (decide (h < n) && decide (a < (h : Int)) && true) = true
    rw [decide_eq_true q, decide_eq_true q2]; rfl
  | x :: L, a, g, l, q, q2 => by
    unfold fitL at g
    simp only [Bool.and_eq_true, decide_eq_true_eq] at g
    show (decide (x < n) && decide (a < (x : Int)) && fitL n x (L ++ [h])) = true
    rw [decide_eq_true g.1.1, decide_eq_true g.1.2, fit_snoc g.2 (fun y hy => l y (List.mem_cons_of_mem _ hy)) (by have := l x List.mem_cons_self; omega) q2]
    rfl
theorem set_last {i : Nat} {m ix : Em} {ds : List D} {d : D} (h0 : en[i]? = some (.own (.lst ds))) (hm : m en = .ok (d, en)) (hi : ix en = .ok (.int (-1), en)) (hl : 1 ≤ ds.length) : mSetO i ix m en = .ok (.nx, en.set i (.own (.lst (ds.set (ds.length - 1) d)))) := by
  have e : ownL en i = some ds := by unfold ownL; rw [h0]
  rw [mSetO_ap, hm, bind_ok]
  dsimp only
  rw [e]
  dsimp only
  rw [hi, bind_ok]
  dsimp only
  rw [e]
  dsimp only
  have : ixI ds.length (.int (-1)) = some (ds.length - 1) := by
    show ixN ds.length (-1) = _
    unfold ixN
    rw [if_neg (by omega), if_pos (by omega)]
    congr 1
    omega
  rw [this]
abbrev loE (xs : List Int) (v : Dv) (n s p : Nat) (u4 u5 u6 u7 u8 : SV) : En := [.own (dr xs v), .dat (iD n), .dat (iD s), .dat (iD p), u4, u5, u6, u7, u8]
theorem law_lots_ok (hx : Sh xs) (h : Ok v) (n1 : 1 ≤ n) (n6 : n ≤ 6) : ∃ Ls v', M__law_lots (dr xs v) [iD n] = .ok (FD Ls, dr xs v') ∧ Ok v' ∧ Lo n Ls := by
  obtain ⟨d, mo', e, Ls, v', rfl, rfl, q1, q2⟩ := fnD_ex (m := m__law_lots) (n := 9) (k := 2) (mo := dr xs v) (ds := [iD n]) (P := fun d mo' => ∃ Ls v', d = FD Ls ∧ mo' = dr xs v' ∧ Ok v' ∧ Lo n Ls) rfl (by
    show Wp (m__law_lots [.own (dr xs v), .dat (iD n), .un, .un, .un, .un, .un, .un, .un]) _
    obtain ⟨s, v1, e1, h, _⟩ := drw hx h (m := 4) (i := 0) (en := [.own (dr xs v), .dat (iD n), .un, .un, .un, .un, .un, .un, .un]) (a := eC (.int 4)) rfl rfl
    refine wp_seq (en1 := [.own (dr xs v1), .dat (iD n), .dat (iD s), .un, .un, .un, .un, .un, .un]) (asg_at e1) ?_
    obtain ⟨p, v2, e2', h, _⟩ := drw hx h (m := n) (i := 0) (en := [.own (dr xs v1), .dat (iD n), .dat (iD s), .un, .un, .un, .un, .un, .un]) (a := eVar 1) rfl rfl
    refine wp_seq (en1 := loE xs v2 n s p .un .un .un .un .un) (asg_at e2') ?_
    refine wp_seq (en1 := loE xs v2 n s p (.own (.lst [])) .un .un .un .un) (asgO_at (ds := []) (en1 := loE xs v2 n s p .un .un .un .un .un) rfl) ?_
    obtain ⟨t, v3, e3, h, ht⟩ := drw hx h (m := 5) (i := 0) (en := loE xs v2 n s p (.own (.lst [])) .un .un .un .un) (a := eC (.int 5)) rfl rfl
    have ht := ht (by decide)
    refine wp_bind (wp_rngI (n := 1 + t) (fun i en => ∃ v Ls u5 u6 u7 u8, en = loE xs v n s p (.own (.lst (Ls.map tupN))) u5 u6 u7 u8 ∧ Ok v ∧ Ls.length = i ∧ ∀ L ∈ Ls, fitL n (-1) L = true) (en1 := loE xs v3 n s p (.own (.lst [])) .un .un .un .un) (tone_at (e2_at (d := iD 1) (e := iD t) rfl e3 (fAdd_N _ _))) ⟨v3, [], _, _, _, _, rfl, h, rfl, fun L hL => by cases hL⟩ (by omega) ?_ ?_)
    · rintro i en hi ⟨v, Ls, u5, u6, u7, u8, rfl, h, hl, hf⟩
      let O4 : SV := .own (.lst (Ls.map tupN))
      let E : Dv → SV → SV → SV → En := fun v u6 u7 u8 => loE xs v n s p O4 (.dat (iD i)) u6 u7 u8
      refine wp_seq (en1 := E v (.own (.lst [])) u7 u8) (asgO_at (ds := []) (en1 := E v u6 u7 u8) rfl) ?_
      refine wp_bind (wp_rngI (n := n) (fun j en => ∃ v L u7 u8, en = E v (.own (.lst (L.map iD))) u7 u8 ∧ Ok v ∧ fitL n (-1) L = true ∧ ∀ x ∈ L, x < j) (en1 := E v (.own (.lst [])) u7 u8) (tone rfl) ⟨v, [], _, _, rfl, h, rfl, fun x hx => by cases hx⟩ (by omega) ?_ ?_)
      · rintro j en hj ⟨v, L, u7, u8, rfl, h, hf2, hL⟩
        let O6 : SV := .own (.lst (L.map iD))
        let E2 : Dv → SV → En := fun v u8 => E v O6 (.dat (iD j)) u8
        have hlen := fitL_small hf2
        let y : Bool := !decide (s = 0)
        let z : Bool := decide (2 * (L.length + 1) < n)
        obtain ⟨w, e8⟩ : ∃ w : Bool, eOr (e2 fNe (eVar 2) (eC (.int 0))) (e2 fLt (e2 fMul (eC (.int 2)) (e2 fAdd (eBLen 6) (eC (.int 1)))) (eVar 1)) (E2 v u8) = .ok (.bool w, E2 v u8) := ⟨_, eOr_b (e2_of (d := iD s) (e := iD 0) rfl rfl (fNe_N s 0)) fun _ => e2_of (d := iD (2 * (L.length + 1))) (e := iD n) (e2_of (d := iD 2) (e := iD (L.length + 1)) rfl (e2_of (d := iD L.length) (e := iD 1) (by have := blen_at (en := E2 v u8) (i := 6) (ds := L.map iD) rfl; rw [List.length_map] at this; exact this) rfl (fAdd_N _ _)) (fMul_N (by decide) (by omega))) rfl (fLt_N _ _)⟩
        refine wp_asgs (d := .bool w) (en1 := E2 v u8) e8 ?_
        let W : SV := .dat (.bool w)
        obtain ⟨r, v', e9, h, _⟩ := drw hx h (m := 2) (i := 0) (en := E2 v W) (a := eC (.int 2)) rfl rfl
        refine wp_if (en1 := E2 v' W) (tmAnd_b (b_at (e2_at e9 rfl (fEq_N r 1))) fun _ => tmAnd_b (x := w) (by cases w <;> rfl) fun _ => tmOr_b (b_of (e2_of (d := iD s) (e := iD 1) rfl rfl (fNe_N s 1))) fun _ => b_of (e2_of (d := iD j) (e := iD p) rfl rfl (fNe_N j p))) (fun _ => ?_) (fun _ => ?_)
        · refine wp_lap (en1 := E v' (.own (.lst ((L ++ [j]).map iD))) (.dat (iD j)) W) ?_ ⟨v', L ++ [j], _, _, rfl, h, fit_snoc hf2 hL (by omega) hj, fun x hx => ?_⟩
          · refine (app_at (i := 6) (en := E2 v' W) (en1 := E2 v' W) (ds0 := L.map iD) (ds := L.map iD) (d := iD j) rfl rfl rfl (by rw [List.length_map]; omega)).trans ?_
            rw [List.map_append]
            rfl
          · rcases List.mem_append.mp hx with q | q
            · have := hL x q; omega
            · rw [List.mem_singleton.mp q]; omega
        · exact wp_next ⟨v', L, _, _, rfl, h, hf2, fun x hx => by have := hL x hx; omega⟩
      · rintro en ⟨v, L, u7, u8, rfl, h, hf2, _⟩
        let E3 : En := E v (.dat (.list (L.map iD))) u7 u8
        refine wp_lap (en1 := loE xs v n s p (.own (.lst ((Ls ++ [L]).map tupN))) (.dat (iD i)) (.dat (.list (L.map iD))) u7 u8) ?_ ⟨v, Ls ++ [L], _, _, _, _, rfl, h, by rw [List.length_append, hl]; rfl, fun M hM => ?_⟩
        · refine (app_at (i := 4) (en := E v (.own (.lst (L.map iD))) u7 u8) (en1 := E3) (ds0 := Ls.map tupN) (ds := Ls.map tupN) (d := tupN L) rfl (eN_at (ds := [.list (L.map iD)]) (tone_at rfl) rfl) rfl (by rw [List.length_map]; omega)).trans ?_
          rw [List.map_append]
          rfl
        · rcases List.mem_append.mp hM with q | q
          · exact hf M q
          · rw [List.mem_singleton.mp q]; exact hf2
    · rintro en ⟨v, Ls, u5, u6, u7, u8, rfl, h, hl, hf⟩
      have fin : ∀ Ls : List (List Nat), Ls.length = 1 + t → (∀ L ∈ Ls, fitL n (-1) L = true) → Wp (mRet (eN fTuple (aCons (eVar 4) aNil)) (loE xs v n s p (.own (.lst (Ls.map tupN))) u5 u6 u7 u8)) (fun fl en => ∃ d mo', fl = .rt d ∧ pinAt en 0 = some mo' ∧ ∃ Ls v', d = FD Ls ∧ mo' = dr xs v' ∧ Ok v' ∧ Lo n Ls) := fun Ls hl hf =>
        wp_ret (d := FD Ls) (en1 := loE xs v n s p (.dat (.list (Ls.map tupN))) u5 u6 u7 u8) (eN_at (ds := [.list (Ls.map tupN)]) (tone_at rfl) rfl) ⟨_, _, rfl, rfl, Ls, v, rfl, rfl, h, n1, n6, by omega, by omega, hf⟩
      let E4 : En := loE xs v n s p (.own (.lst (Ls.map tupN))) u5 u6 u7 u8
      refine wp_ifs (x := decide (s = 2)) (en1 := E4) (b_of (e2_of (d := iD s) (e := iD 2) rfl rfl (fEq_N s 2))) (fun _ => ?_) (fun _ => wp_next (fin Ls hl hf))
      have h0 : 0 < Ls.length := by omega
      have ix0 : eBIx 4 (eC (.int 0)) E4 = .ok (tupN Ls[0], E4) := by
        rw [eBIx_ap]
        show (match some (Ls.map tupN) with
          | none => Rs.stk
          | some _ => _) = _
        dsimp only
        rw [show eC (.int 0) E4 = .ok (iD 0, E4) from rfl, bind_ok]
        show (match some (Ls.map tupN) with
          | none => Rs.stk
          | some _ => _) = _
        dsimp only
        rw [atI_map tupN Ls 0 h0]
      refine ⟨.nx, loE xs v n s p (.own (.lst ((Ls.set (Ls.length - 1) Ls[0]).map tupN))) u5 u6 u7 u8, ?_, fin _ (by rw [List.length_set]; exact hl) fun M hM => ?_⟩
      · refine (set_last (i := 4) (en := E4) (ds := Ls.map tupN) (d := tupN Ls[0]) rfl ix0 rfl (by rw [List.length_map]; omega)).trans ?_
        rw [List.length_map, List.map_set]
        rfl
      · rcases List.mem_or_eq_of_mem_set hM with q | q
        · exact hf M q
        · rw [q]; exact hf _ (List.getElem_mem h0))
  exact ⟨Ls, v', e, q1, q2⟩
end
end K24
end
section
set_option Elab.async false
set_option linter.all false
set_option maxRecDepth 100000
set_option maxHeartbeats 4000000
namespace Mir
open PySem PySem.Spec PyProof.Rows L2
section
variable {en en1 en2 : En} {i j k : Nat}
theorem dvAt_is {kvs : List (Vw × D)} (h : en[i]? = some (.own (.dv kvs))) : dvAt en i = some kvs := by unfold dvAt; rw [h]
theorem newV_at (h : i ≠ 0) : mNewV i en = .ok (.nx, en.set i (.own (.dv []))) := if_neg h
theorem getDV_at {kvs : List (Vw × D)} {m x : Em} {v : Vw} {d : D} (h : en[i]? = some (.own (.dv kvs))) (hm : m en = .ok (FD v, en)) (hx : x en = .ok (d, en)) : eGetDV i m x en = .ok ((getV kvs v).getD d, en) := by
  unfold eGetDV
  rw [dvAt_is h]
  dsimp only
  rw [hm, bind_ok]
  dsimp only
  rw [hx, bind_ok]
  dsimp only
  rw [dvAt_is h, viewOf_FD]
theorem putV_at {kvs : List (Vw × D)} {m x : Em} {v : Vw} {d : D} (hx : x en = .ok (d, en)) (h : en[i]? = some (.own (.dv kvs))) (hm : m en = .ok (FD v, en)) (hl : kvs.length < 99999) : mPutV i m x en = .ok (.nx, en.set i (.own (.dv (putV kvs v d)))) := by
  unfold mPutV
  rw [hx, bind_ok]
  dsimp only
  rw [dvAt_is h]
  dsimp only
  rw [hm, bind_ok]
  dsimp only
  rw [dvAt_is h, viewOf_FD]
  exact if_pos (Nat.lt_trans hl (by decide))
end
structure Cn (L : List Vw) (kvs : List (Vw × D)) : Prop where
  get : ∀ k, getV kvs k = if k ∈ L then some (iD (L.count k)) else none
  key : ∀ k, k ∈ kvs.map (·.1) ↔ k ∈ L
  nd : (kvs.map (·.1)).Nodup
  len : kvs.length ≤ L.length
theorem Cn.nil : Cn [] [] := ⟨fun k => by rw [if_neg (by simp)]; rfl, fun k => by simp, List.nodup_nil, Nat.le_refl _⟩
theorem putV_keys : ∀ (kvs : List (Vw × D)) (v : Vw) (d : D), (putV kvs v d).map (·.1) = if v ∈ kvs.map (·.1) then kvs.map (·.1) else kvs.map (·.1) ++ [v]
  | [], v, d => by rw [if_neg (by simp)]; rfl
  | (k, e) :: r, v, d => by
    unfold putV
    by_cases q : k = v
    · subst q
      rw [if_pos rfl, if_pos (by simp)]; rfl
    · rw [if_neg q, List.map_cons, putV_keys r v d, List.map_cons]
      by_cases h : v ∈ r.map (·.1)
      · rw [if_pos h, if_pos (List.mem_cons_of_mem _ h)]
      · rw [if_neg h, if_neg (fun z => (List.mem_cons.mp z).elim (fun e => q e.symm) h)]; rfl
theorem Cn.put {L : List Vw} {kvs : List (Vw × D)} (c : Cn L kvs) (v : Vw) : Cn (L ++ [v]) (putV kvs v (iD (L.count v + 1))) where
  get k := by
    rw [getV_put]
    by_cases q : v = k
    · subst q
      rw [if_pos rfl, if_pos (by simp), List.count_append, List.count_singleton_self]
    · have e : (k ∈ L ++ [v]) ↔ k ∈ L := by
        rw [List.mem_append, List.mem_singleton]
        exact ⟨fun z => z.elim id fun z => absurd z.symm q, .inl⟩
      have e2 : (L ++ [v]).count k = L.count k := by
        rw [List.count_append, List.count_singleton, if_neg (by simpa using q)]; rfl
      rw [if_neg q, c.get k, e2]
      by_cases h : k ∈ L
      · rw [if_pos h, if_pos (e.mpr h)]
      · rw [if_neg h, if_neg (fun z => h (e.mp z))]
  key k := by
    rw [putV_keys]
    split
    · rename_i h
      rw [c.key, List.mem_append, List.mem_singleton]
      exact ⟨.inl, fun z => z.elim id fun z => by rw [z]; exact (c.key v).mp h⟩
    · rw [List.mem_append, List.mem_append, c.key]
  nd := by
    rw [putV_keys]
    split
    · exact c.nd
    · rename_i h
      refine List.nodup_append.mpr ⟨c.nd, by simp, fun x hx y hy e => h ?_⟩
      rw [List.mem_singleton.mp hy] at e
      rw [← e]; exact hx
  len := by
    have h1 := congrArg List.length (putV_keys kvs v (iD (L.count v + 1)))
    have h2 := c.len
    rw [List.length_map] at h1
    rw [h1, List.length_append, List.length_singleton]
    split
    · rw [List.length_map]; omega
    · rw [List.length_append, List.length_map, List.length_singleton]; omega
theorem Cn.getD {L : List Vw} {kvs : List (Vw × D)} (c : Cn L kvs) (k : Vw) : (getV kvs k).getD (iD 0) = iD (L.count k) := by
  rw [c.get]
  by_cases h : k ∈ L
  · rw [if_pos h]; rfl
  · rw [if_neg h, List.count_eq_zero.mpr h]; rfl
end Mir
end
section
set_option Elab.async false
set_option linter.all false
set_option maxRecDepth 100000
set_option maxHeartbeats 4000000
namespace K24
open PySem PySem.Spec PyProof.Rows L2 Mir
section
variable {n m k h : Nat} {Ls : List (List Nat)} {T r s : List Nat} {rs : List (List Nat)}
/-- all rows of bits -/
def br : Nat → List (List Nat)
  | 0 => [[]]
  | m + 1 => (br m).map (· ++ [0]) ++ (br m).map (· ++ [1])
theorem br_len : ∀ m, (br m).length = 2 ^ m
  | 0 => rfl
  | m + 1 => by
    show ((br m).map (· ++ [0]) ++ (br m).map (· ++ [1])).length = _
    rw [List.length_append, List.length_map, List.length_map, br_len m, Nat.pow_succ]
    omega
theorem br_row : ∀ (m : Nat), ∀ r ∈ br m, r.length = m ∧ ∀ b ∈ r, b ≤ 1
  | 0, r, hr => by rw [List.mem_singleton.mp hr]; exact ⟨rfl, fun b hb => by cases hb⟩
  | m + 1, r, hr => by
    have key : ∀ c : Nat, c ≤ 1 → r ∈ (br m).map (· ++ [c]) → r.length = m + 1 ∧ ∀ b ∈ r, b ≤ 1 := fun c hc q => by
      obtain ⟨s, hs, rfl⟩ := List.mem_map.mp q
      obtain ⟨h1, h2⟩ := br_row m s hs
      refine ⟨by rw [List.length_append, h1]; rfl, fun b hb => ?_⟩
      rcases List.mem_append.mp hb with q | q
      · exact h2 b q
      · rw [List.mem_singleton.mp q]; exact hc
    rcases List.mem_append.mp (show r ∈ (br m).map (· ++ [0]) ++ (br m).map (· ++ [1]) from hr) with q | q
    · exact key 0 (by omega) q
    · exact key 1 (by omega) q
def flip (k : Nat) (r : List Nat) : List Nat := r.set k (1 - r.getD k 0)
theorem flip_perm : ∀ m ≤ 4, ∀ k < m, ((br m).map (flip k)).isPerm (br m) = true := by decide +kernel
theorem flip_par : ∀ m ≤ 4, ∀ k < m, ∀ r ∈ br m, (flip k r).sum % 2 = 1 - r.sum % 2 := by decide +kernel
theorem br_nd : ∀ m ≤ 4, (br m).Nodup := by decide +kernel
def gets (Ls : List (List Nat)) (h : Nat) (r : List Nat) : List Nat := ((List.range Ls.length).filter fun k => !decide (h ∈ Ls.getD k [])).map fun k => r.getD k 0
def view (n : Nat) (Ls : List (List Nat)) (T r : List Nat) : List (List Nat) := ((List.range n).filter fun h => decide (h ∈ T)).map fun h => gets Ls h r
def blindAt (Ls : List (List Nat)) (T : List Nat) (k : Nat) : Bool := T.all fun h => decide (h ∈ Ls.getD k [])
def cnt (n : Nat) (Ls : List (List Nat)) (T : List Nat) (rs : List (List Nat)) (w : List (List Nat)) (b : Nat) : Nat := rs.countP fun r => decide (view n Ls T r = w) && decide (r.sum % 2 = b)
theorem gets_flip (hk : h ∈ Ls.getD k []) : gets Ls h (flip k r) = gets Ls h r := by
  unfold gets
  refine List.map_congr_left fun j hj => ?_
  have hj := (List.mem_filter.mp hj).2
  have : j ≠ k := fun e => by
    subst e
    rw [decide_eq_true hk] at hj
    cases hj
  unfold flip
  rw [List.getD_eq_getElem?_getD, List.getElem?_set_ne (fun e => this e.symm), List.getD_eq_getElem?_getD]
theorem view_flip (hb : blindAt Ls T k = true) : view n Ls T (flip k r) = view n Ls T r := by
  unfold view
  refine List.map_congr_left fun h hh => gets_flip ?_
  have hh := of_decide_eq_true (List.mem_filter.mp hh).2
  unfold blindAt at hb
  rw [List.all_eq_true] at hb
  exact of_decide_eq_true (hb h hh)
theorem blind_even (m4 : m ≤ 4) (hk : k < m) (hb : blindAt Ls T k = true) (w : List (List Nat)) : cnt n Ls T (br m) w 0 = cnt n Ls T (br m) w 1 := by
  have pm : ((br m).map (flip k)).Perm (br m) := List.isPerm_iff.mp (flip_perm m m4 k hk)
  unfold cnt
  rw [← pm.countP_eq, List.countP_map]
  refine List.countP_congr fun r hr => ?_
  show (decide (view n Ls T (flip k r) = w) && decide ((flip k r).sum % 2 = 0)) = true ↔ _
  rw [view_flip hb, flip_par m m4 k hk r hr]
  rw [Bool.and_eq_true, Bool.and_eq_true, decide_eq_true_eq, decide_eq_true_eq, decide_eq_true_eq]
  have : r.sum % 2 < 2 := Nat.mod_lt _ (by decide)
  constructor <;> rintro ⟨h1, h2⟩ <;> exact ⟨h1, by omega⟩
theorem view_inj (h1 : r.length = Ls.length) (h2 : s.length = Ls.length) (hT : ∀ h ∈ T, h < n) (hb : ∀ k < Ls.length, blindAt Ls T k = false) (e : view n Ls T r = view n Ls T s) : r = s := by
  unfold view at e
  have e := List.map_inj_left.mp e
  refine List.ext_getElem (by rw [h1, h2]) fun k hk hk2 => ?_
  have hkl : k < Ls.length := by omega
  have b := hb k hkl
  unfold blindAt at b
  rw [List.all_eq_false] at b
  obtain ⟨h, hh, q⟩ := b
  have q : ¬ h ∈ Ls.getD k [] := fun z => q (decide_eq_true z)
  have g := e h (List.mem_filter.mpr ⟨List.mem_range.mpr (hT h hh), decide_eq_true hh⟩)
  unfold gets at g
  have g := List.map_inj_left.mp g k (List.mem_filter.mpr ⟨List.mem_range.mpr hkl, by rw [decide_eq_false q]; rfl⟩)
  rw [List.getD_eq_getElem?_getD, List.getD_eq_getElem?_getD, List.getElem?_eq_getElem hk, List.getElem?_eq_getElem hk2] at g
  exact g
theorem nd_count {r : List Nat} : ∀ {L : List (List Nat)}, L.Nodup → r ∈ L → L.countP (· == r) = 1
  | [], _, h => by cases h
  | x :: L, nd, h => by
    have nd := List.nodup_cons.mp nd
    rw [List.countP_cons]
    by_cases c : x = r
    · subst c
      rw [if_pos (beq_self_eq_true x), List.countP_eq_zero.mpr fun y hy q => nd.1 (by rw [beq_iff_eq] at q; rw [← q]; exact hy)]
    · rw [if_neg (by rw [beq_iff_eq]; exact c), nd_count nd.2 ((List.mem_cons.mp h).elim (fun e => absurd e.symm c) id)]
theorem cnt_both (w : List (List Nat)) : ∀ rs : List (List Nat), cnt n Ls T rs w 0 + cnt n Ls T rs w 1 = rs.countP fun r => decide (view n Ls T r = w)
  | [] => rfl
  | r :: rs => by
    have ih := cnt_both w rs
    unfold cnt at ih ⊢
    rw [List.countP_cons, List.countP_cons, List.countP_cons, ← ih]
    have : r.sum % 2 < 2 := Nat.mod_lt _ (by decide)
    by_cases c : view n Ls T r = w
    · rw [decide_eq_true c, Bool.true_and, Bool.true_and, if_pos rfl]
      rcases (by omega : r.sum % 2 = 0 ∨ r.sum % 2 = 1) with z | z
      · rw [z, if_pos (by decide), if_neg (by decide)]; omega
      · rw [z, if_neg (by decide), if_pos (by decide)]; omega
    · rw [decide_eq_false c, Bool.false_and, Bool.false_and, if_neg Bool.false_ne_true]
      omega
theorem seen_one (m4 : Ls.length ≤ 4) (hT : ∀ h ∈ T, h < n) (hb : ∀ k < Ls.length, blindAt Ls T k = false) {w : List (List Nat)} (hw : w ∈ (br Ls.length).map (view n Ls T)) : cnt n Ls T (br Ls.length) w 0 + cnt n Ls T (br Ls.length) w 1 = 1 := by
  rw [cnt_both]
  obtain ⟨r, hr, rfl⟩ := List.mem_map.mp hw
  have e : (br Ls.length).countP (fun s => decide (view n Ls T s = view n Ls T r)) = (br Ls.length).countP (· == r) := by
    refine List.countP_congr fun s hs => ?_
    rw [decide_eq_true_eq, beq_iff_eq]
    exact ⟨fun e => view_inj (br_row _ s hs).1 (br_row _ r hr).1 hT hb e, fun e => by rw [e]⟩
  rw [e]
  exact nd_count (br_nd _ m4) hr
def pairD (a b : Nat) : D := .tuple [iD a, iD b]
structure Tl (n : Nat) (Ls : List (List Nat)) (T : List Nat) (rs : List (List Nat)) (kvs : List (Vw × D)) : Prop where
  get : ∀ w, getV kvs w = if w ∈ rs.map (view n Ls T) then some (pairD (cnt n Ls T rs w 0) (cnt n Ls T rs w 1)) else none
  key : ∀ w ∈ kvs.map (·.1), w ∈ rs.map (view n Ls T)
  len : kvs.length ≤ rs.length
theorem Tl.nil : Tl n Ls T [] [] := ⟨fun w => by rw [if_neg (by simp)]; rfl, fun w hw => by simp at hw, Nat.le_refl _⟩
theorem cnt_snoc (w : List (List Nat)) (b : Nat) : cnt n Ls T (rs ++ [r]) w b = cnt n Ls T rs w b + if view n Ls T r = w ∧ r.sum % 2 = b then 1 else 0 := by
  unfold cnt
  rw [List.countP_append, List.countP_cons, List.countP_nil]
  by_cases c : view n Ls T r = w ∧ r.sum % 2 = b
  · rw [if_pos c, if_pos (by rw [Bool.and_eq_true, decide_eq_true_eq, decide_eq_true_eq]; exact c)]
  · rw [if_neg c, if_neg (by rw [Bool.and_eq_true, decide_eq_true_eq, decide_eq_true_eq]; exact c)]
theorem cnt_out {w : List (List Nat)} (hw : w ∉ rs.map (view n Ls T)) (b : Nat) : cnt n Ls T rs w b = 0 := by
  unfold cnt
  rw [List.countP_eq_zero]
  intro r hr q
  rw [Bool.and_eq_true, decide_eq_true_eq] at q
  exact hw (List.mem_map.mpr ⟨r, hr, q.1⟩)
theorem Tl.at_ {kvs : List (Vw × D)} (t : Tl n Ls T rs kvs) (w : List (List Nat)) : (getV kvs w).getD (pairD 0 0) = pairD (cnt n Ls T rs w 0) (cnt n Ls T rs w 1) := by
  rw [t.get w]
  by_cases c : w ∈ rs.map (view n Ls T)
  · rw [if_pos c]; rfl
  · rw [if_neg c, cnt_out c, cnt_out c]; rfl
theorem Tl.put {kvs : List (Vw × D)} (t : Tl n Ls T rs kvs) (r : List Nat) : Tl n Ls T (rs ++ [r]) (putV kvs (view n Ls T r) (pairD (cnt n Ls T rs (view n Ls T r) 0 + 1 - r.sum % 2) (cnt n Ls T rs (view n Ls T r) 1 + r.sum % 2))) where
  get w := by
    rw [getV_put, List.map_append, cnt_snoc, cnt_snoc]
    have hp : r.sum % 2 < 2 := Nat.mod_lt _ (by decide)
    by_cases q : view n Ls T r = w
    · rw [if_pos q, if_pos (List.mem_append_right _ (by rw [← q]; exact List.mem_cons_self))]
      congr 2
      · subst q
        rcases (by omega : r.sum % 2 = 0 ∨ r.sum % 2 = 1) with z | z
        · rw [z, if_pos ⟨rfl, rfl⟩]; rfl
        · rw [z, if_neg (fun c => by have := c.2; omega)]; rfl
      · subst q
        rcases (by omega : r.sum % 2 = 0 ∨ r.sum % 2 = 1) with z | z
        · rw [z, if_neg (fun c => by have := c.2; omega)]
        · rw [z, if_pos ⟨rfl, rfl⟩]
    · rw [if_neg q, if_neg (fun c : view n Ls T r = w ∧ r.sum % 2 = 0 => q c.1), if_neg (fun c : view n Ls T r = w ∧ r.sum % 2 = 1 => q c.1), t.get w]
      have e : (w ∈ rs.map (view n Ls T) ++ [r].map (view n Ls T)) ↔ w ∈ rs.map (view n Ls T) := by
        rw [List.mem_append]
        exact ⟨fun z => z.elim id fun z => absurd (List.mem_singleton.mp z).symm q, .inl⟩
      by_cases c : w ∈ rs.map (view n Ls T)
      · rw [if_pos c, if_pos (e.mpr c)]; rfl
      · rw [if_neg c, if_neg (fun z => c (e.mp z))]
  key w hw := by
    rw [putV_keys] at hw
    rw [List.map_append]
    split at hw
    · exact List.mem_append_left _ (t.key w hw)
    · rcases List.mem_append.mp hw with z | z
      · exact List.mem_append_left _ (t.key w z)
      · rw [List.mem_singleton.mp z]; exact List.mem_append_right _ (List.mem_cons_self)
  len := by
    have e := congrArg List.length (putV_keys kvs (view n Ls T r) (pairD (cnt n Ls T rs (view n Ls T r) 0 + 1 - r.sum % 2) (cnt n Ls T rs (view n Ls T r) 1 + r.sum % 2)))
    rw [List.length_map] at e
    rw [e, List.length_append]
    have := t.len
    split
    · rw [List.length_map]; omega
    · rw [List.length_append, List.length_map]
      show kvs.length + 1 ≤ rs.length + 1
      omega
end
end K24
end
section
set_option Elab.async false
set_option linter.all false
set_option maxRecDepth 100000
set_option maxHeartbeats 4000000
namespace K24
open PySem PySem.Spec PyProof.Rows L2 Mir
section
variable {xs : List Int} {n h m i : Nat} {Ls : List (List Nat)} {T r : List Nat} {en en1 : En} {v : Dv}
theorem gets_of_ok (H : Lo n Ls) (hh : h < n) (hr : r.length = Ls.length) (hb : ∀ b ∈ r, b ≤ 1) : M_gets_of [iD n, FD Ls, iD h, tupN r] = .ok (tupN (gets Ls h r)) := by
  have h5 := H.five
  refine fn_wp rfl ?_
  let E : En := [.dat (iD n), .dat (FD Ls), .dat (iD h), .dat (tupN r), .un]
  show Wp (m_gets_of E) _
  refine wp_seq (en1 := E) (dr_of (call_b (ds := [iD n]) (tone rfl) (many_ok H.n1))) ?_
  refine wp_seq (en1 := E) (dr_of (call_b (ds := [iD n, FD Ls]) (tcons rfl (tone rfl)) (want_lots_ok H))) ?_
  have hn : M_is_number [iD h] = .ok (.bool true) := fn_ret rfl (en' := [.dat (iD h)]) (call_b (ds := [iD h]) (tone rfl) (by rw [num_ok]; show Rs.ok (PyData.bool (decide (0 ≤ (h : Int)))) = _; rw [decide_eq_true (by omega)]))
  refine wp_seq (en1 := E) (dropW (eAnd_b (x := true) (y := true) (call_b (ds := [iD h]) (tone rfl) hn) fun _ => e2_of (d := iD h) (e := iD n) rfl rfl (by rw [fLt_N, decide_eq_true hh]))) ?_
  refine wp_seq (en1 := E) (want_bits (i := 3) hb rfl rfl hr h5) ?_
  have hc := lLc_nat (j := 4) (a := aCons (eN fLen (aCons (eVar 1) aNil)) aNil) (t := tmB (e2 fNotIn (eVar 2) (e2 fIx (eVar 1) (eVar 4)))) (m := e2 fIx (eVar 3) (eVar 4)) (en := E) (n := Ls.length) (fun k => !decide (h ∈ Ls.getD k [])) (fun k => iD (r.getD k 0)) (tone (en1_of (d := FD Ls) rfl (FD_len Ls))) (by show 4 < 5; omega) rfl (by omega) (fun k hk => ⟨b_of (e2_of (d := iD h) (e := tupN (Ls.getD k [])) rfl (e2_of (d := FD Ls) (e := iD k) rfl rfl (ix_FD hk)) (notIn_tup h _)), fun _ => e2_of (d := tupN r) (e := iD k) rfl rfl (ix_tupA r k (by omega))⟩)
  have e : (((List.range Ls.length).filter fun k => !decide (h ∈ Ls.getD k [])).map fun k => iD (r.getD k 0)) = (gets Ls h r).map iD := by unfold gets; rw [List.map_map]; rfl
  rw [e] at hc
  exact wp_ret (d := tupN (gets Ls h r)) (en1 := E) (eN_at (ds := [.list ((gets Ls h r).map iD)]) (tone_at (el_at hc)) rfl) rfl
theorem law_gets_ok (h5 : Ls.length ≤ 5) (hr : r.length = Ls.length) : M__law_gets [FD Ls, iD h, tupN r] = .ok (tupN (gets Ls h r)) := by
  refine fn_wp rfl ?_
  let E : En := [.dat (FD Ls), .dat (iD h), .dat (tupN r), .un]
  show Wp (m__law_gets E) _
  have hc := lLc_nat (j := 3) (a := aCons (eN fLen (aCons (eVar 0) aNil)) aNil) (t := tmB (e2 fNotIn (eVar 1) (e2 fIx (eVar 0) (eVar 3)))) (m := e2 fIx (eVar 2) (eVar 3)) (en := E) (n := Ls.length) (fun k => !decide (h ∈ Ls.getD k [])) (fun k => iD (r.getD k 0)) (tone (en1_of (d := FD Ls) rfl (FD_len Ls))) (by show 3 < 4; omega) rfl (by omega) (fun k hk => ⟨b_of (e2_of (d := iD h) (e := tupN (Ls.getD k [])) rfl (e2_of (d := FD Ls) (e := iD k) rfl rfl (ix_FD hk)) (notIn_tup h _)), fun _ => e2_of (d := tupN r) (e := iD k) rfl rfl (ix_tupA r k (by omega))⟩)
  have e : (((List.range Ls.length).filter fun k => !decide (h ∈ Ls.getD k [])).map fun k => iD (r.getD k 0)) = (gets Ls h r).map iD := by unfold gets; rw [List.map_map]; rfl
  rw [e] at hc
  exact wp_ret (d := tupN (gets Ls h r)) (en1 := E) (eN_at (ds := [.list ((gets Ls h r).map iD)]) (tone_at (el_at hc)) rfl) rfl
theorem within_ok (T L : List Nat) : M__law_within [tupN T, tupN L] = .ok (.bool (T.all fun h => decide (h ∈ L))) := by
  refine fn_wp rfl ?_
  let E : SV → En := fun u => [.dat (tupN T), .dat (tupN L), u]
  show Wp (m__law_within (E .un)) _
  refine wp_bind (wp_seekI iD (fun en => ∃ u, en = E u) (fun h => if h ∈ L then none else some (.bool false)) T (imS_at (d := tupN T) rfl rfl) ⟨_, rfl⟩ ?_ ?_)
  · rintro h _ en ⟨u, rfl⟩
    refine ⟨E (.dat (iD h)), rfl, wp_if (x := !decide (h ∈ L)) (en1 := E (.dat (iD h))) (b_of (e2_of (d := iD h) (e := tupN L) rfl rfl (notIn_tup h L))) (fun q => ?_) (fun q => ?_)⟩
    · have q : ¬ h ∈ L := by simpa using q
      refine wp_ret (d := .bool false) (en1 := E (.dat (iD h))) rfl ⟨⟨_, rfl⟩, ?_⟩
      rw [if_neg q]
    · have q : h ∈ L := by simpa using q
      refine wp_next ⟨⟨_, rfl⟩, ?_⟩
      rw [if_pos q]; exact .inl rfl
  · rintro en ⟨u, rfl⟩
    have key : ∀ T : List Nat, (match T.findSome? fun h => if h ∈ L then none else some (PyData.bool false) with
      | some d => d = .bool (T.all fun h => decide (h ∈ L))
      | none => T.all (fun h => decide (h ∈ L)) = true) := by
      intro T
      induction T with
      | nil => rfl
      | cons t T ih =>
        rw [List.findSome?_cons, List.all_cons]
        by_cases c : t ∈ L
        · rw [if_pos c, decide_eq_true c, Bool.true_and]; exact ih
        · rw [if_neg c, decide_eq_false c]; rfl
    have := key T
    revert this
    cases T.findSome? fun h => if h ∈ L then none else some (PyData.bool false) with
    | none => exact fun e => wp_ret (d := .bool true) (en1 := E u) rfl (by rw [e]; exact rfl)
    | some d => exact fun e => e
theorem fAdd_FD (w : List (List Nat)) (g : List Nat) (hl : w.length ≤ 1000) : fAdd (FD w) (.tuple [tupN g]) = .ok (FD (w ++ [g])) := by
  show (if (w.map tupN).length + [tupN g].length ≤ big then Rs.ok (PyData.tuple (w.map tupN ++ [tupN g])) else .stk) = _
  rw [if_pos (by rw [List.length_map]; show w.length + 1 ≤ 100000; omega)]
  show Rs.ok (PyData.tuple (w.map tupN ++ [tupN g])) = Rs.ok (PyData.tuple ((w ++ [g]).map tupN))
  rw [List.map_append]
  rfl
theorem view_succ (j : Nat) : view (j + 1) Ls T r = if j ∈ T then view j Ls T r ++ [gets Ls j r] else view j Ls T r := by
  unfold view
  rw [List.range_succ, List.filter_append, List.map_append, List.filter_cons, List.filter_nil]
  by_cases c : j ∈ T
  · rw [if_pos c, if_pos (decide_eq_true c)]; rfl
  · rw [if_neg c, if_neg (by rw [decide_eq_true_eq]; exact c)]
    exact List.append_nil _
theorem view_len (j : Nat) : (view j Ls T r).length ≤ j := by
  unfold view
  rw [List.length_map]
  exact Nat.le_trans (List.length_filter_le _ _) (by rw [List.length_range]; exact Nat.le_refl _)
theorem getV_at {kvs : List (Vw × D)} {i : Nat} {m : Em} {w : Vw} {d : D} (h : en[i]? = some (.own (.dv kvs))) (hm : m en = .ok (FD w, en)) (hg : getV kvs w = some d) : eGetV i m en = .ok (d, en) := by
  unfold eGetV
  rw [dvAt_is h]
  dsimp only
  rw [hm, bind_ok]
  dsimp only
  rw [dvAt_is h, viewOf_FD]
  dsimp only
  rw [hg]
end
end K24
end
section
set_option Elab.async false
set_option linter.all false
set_option maxRecDepth 100000
set_option maxHeartbeats 4000000
namespace K24
open PySem PySem.Spec PyProof.Rows L2 Mir
section
variable {xs : List Int} {n : Nat} {Ls : List (List Nat)} {v : Dv}
abbrev skE (xs : List Int) (v : Dv) (n : Nat) (Ls : List (List Nat)) (u3 u4 u5 u6 u7 u8 u9 u10 u11 u12 u13 : SV) : En := [.own (dr xs v), .dat (iD n), .dat (FD Ls), u3, u4, u5, u6, u7, u8, u9, u10, u11, u12, u13]
theorem lst_to {en en1 : En} {a : Am} {ds : List D} (h : a en = .ok (ds, en1)) (hl : ds.length ≤ 100000) : lLst a en = .ok (ds, en1) := by
  rw [lLst_ap, h, bind_ok]
  exact if_pos hl
abbrev rwS (rs : List (List Nat)) : SV := .dat (.list (rs.map tupN))
theorem law_seen_ok (hx : Sh xs) (h : Ok v) (H : Lo n Ls) : ∃ v', M__law_seen (dr xs v) [iD n, FD Ls] = .ok (.bool true, dr xs v') ∧ Ok v' := by
  have h5 := H.five
  have h6 := H.n6
  have h1 := H.one
  obtain ⟨d, mo', e, v', rfl, rfl, q1⟩ := fnD_ex (m := m__law_seen) (n := 14) (k := 3) (mo := dr xs v) (ds := [iD n, FD Ls]) (P := fun d mo' => ∃ v', d = .bool true ∧ mo' = dr xs v' ∧ Ok v') rfl (by
    let E : Dv → SV → SV → SV → En := fun v u3 u4 u5 => skE xs v n Ls u3 u4 u5 .un .un .un .un .un .un .un .un
    show Wp (m__law_seen (E v .un .un .un)) _
    refine wp_asgs (d := .list [tupN []]) (en1 := E v .un .un .un) rfl ?_
    refine wp_bind (wp_rngI (n := Ls.length) (fun i en => ∃ u4, en = E v (rwS (br i)) u4 .un ∧ notOwn u4 = true) (en1 := E v (rwS (br 0)) .un .un) (tone (en1_of (d := FD Ls) rfl (FD_len Ls))) ⟨.un, rfl, rfl⟩ (by omega) ?_ ?_)
    · rintro i en hi ⟨u4, rfl, _⟩
      have hl : (br i).length ≤ 2 ^ 5 := by rw [br_len]; exact Nat.pow_le_pow_right (by decide) (by omega)
      let I : SV := .dat (iD i)
      let E1 : En := E v (rwS (br i)) I .un
      have hc : ∀ c : Nat, eL (lLc (imSeq (eVar 3)) [7] (gmName 7) tmYes (e2 fAdd (eVar 7) (eTup (aCons (eC (iD c)) aNil)))) E1 = .ok (.list ((br i).map fun r => tupN (r ++ [c])), E1) := fun c => el_at (lc_map (j := 7) (en := E1) (enc := tupN) (xs := br i) (f := fun r => tupN (r ++ [c])) (imS_at (d := .list ((br i).map tupN)) rfl rfl) (fun r hr => e2_of (d := tupN r) (e := .tuple [iD c]) rfl rfl (fAdd_tup r c (by have := (br_row i r hr).1; omega))) (by omega) (by show 7 < 14; omega) rfl)
      refine wp_asg (d := .list ((br (i + 1)).map tupN)) (en1 := E1) (e2_of (d := .list ((br i).map fun r => tupN (r ++ [0]))) (e := .list ((br i).map fun r => tupN (r ++ [1]))) (hc 0) (hc 1) ?_) ⟨I, rfl, rfl⟩
      rw [fAdd_list _ _ (by rw [List.length_map, List.length_map]; omega)]
      show _ = Rs.ok (PyData.list (((br i).map (· ++ [0]) ++ (br i).map (· ++ [1])).map tupN))
      rw [List.map_append, List.map_map, List.map_map]
      rfl
    · rintro en ⟨u4, rfl, n4⟩
      have hl : (br Ls.length).length ≤ 2 ^ 5 := by rw [br_len]; exact Nat.pow_le_pow_right (by decide) h5
      refine wp_bind (wp_mono (Q := fun fl en => fl = .nx ∧ ∃ v rs, en = E v (rwS rs) u4 .un ∧ Ok v ∧ (∀ r ∈ rs, r ∈ br Ls.length) ∧ rs.length ≤ 32 ∧ (Ls.length ≤ 4 → rs = br Ls.length)) ?_ ?_)
      · refine wp_if (x := decide (4 < Ls.length)) (en1 := E v (rwS (br Ls.length)) u4 .un) (b_of (e2_of (d := iD Ls.length) (e := iD 4) (en1_of (d := FD Ls) rfl (FD_len Ls)) rfl (fGt_N _ _))) (fun q => ?_) (fun q => ?_)
        · have q := of_decide_eq_true q
          have e5 : Ls.length = 5 := by omega
          obtain ⟨a, v1, e1, h, ha⟩ := drw hx h (m := 32) (i := 0) (en := E v (rwS (br Ls.length)) u4 .un) (a := eC (.int 32)) rfl rfl
          obtain ⟨b, v2, e2', h, hb⟩ := drw hx h (m := 32) (i := 0) (en := E v1 (rwS (br Ls.length)) u4 .un) (a := eC (.int 32)) rfl rfl
          have hb5 : (br Ls.length).length = 32 := by rw [br_len, e5]
          have ha := ha (by decide)
          have hb := hb (by decide)
          have hal : a < (br Ls.length).length := by omega
          have hbl : b < (br Ls.length).length := by omega
          have ix : ∀ k (hk : k < (br Ls.length).length), fIx (.list ((br Ls.length).map tupN)) (iD k) = .ok (tupN (br Ls.length)[k]) := fun k hk => by
            show (match atI ((br Ls.length).map tupN) (k : Int) with
              | some z => Rs.ok z
              | none => .stk) = _
            rw [atI_map tupN (br Ls.length) k hk]
          refine wp_asg (d := .list ([(br Ls.length)[a], (br Ls.length)[b]].map tupN)) (en1 := E v2 (rwS (br Ls.length)) u4 .un) (el_at (lst_to (tcons_at (e2_at (d := .list ((br Ls.length).map tupN)) (e := iD a) rfl e1 (ix a hal)) (tone_at (e2_at (d := .list ((br Ls.length).map tupN)) (e := iD b) rfl e2' (ix b hbl)))) (by show 2 ≤ 100000; omega))) ⟨rfl, v2, _, rfl, h, fun r hr => ?_, by show 2 ≤ 32; omega, fun z => by omega⟩
          rcases List.mem_cons.mp hr with z | z
          · rw [z]; exact List.getElem_mem _
          · rw [List.mem_singleton.mp z]; exact List.getElem_mem _
        · have q := of_decide_eq_false q
          exact wp_next ⟨rfl, v, br Ls.length, rfl, h, fun r hr => hr, by omega, fun _ => rfl⟩
      · rintro fl en ⟨rfl, v, rs, rfl, h, hrs, hrl, hr4⟩
        have hrow : ∀ r ∈ rs, r.length = Ls.length ∧ ∀ b ∈ r, b ≤ 1 := fun r hr => br_row _ r (hrs r hr)
        show Wp _ _
        let R3 : SV := rwS rs
        obtain ⟨T0, v1, e1, h, hT0⟩ := lc_runT (W := Dv) (j := 10) (im := imRng rng1 (aCons (eVar 1) aNil)) (t := tmB (e2 fEq (eCallD M__law_draw 0 (aCons (eC (.int 2)) aNil)) (eC (.int 1)))) (m := eVar 10) (enc := iD) (xs := List.range n) (en := E v R3 u4 .un) (fun v => E v R3 u4 .un) (fun _ ys v => Ok v ∧ ∀ y ∈ ys, y < n) v ⟨h, fun y hy => by cases hy⟩ (imR_at (tone rfl) (by omega)) (fun _ => rfl) (fun i ys v hi ⟨h, hy⟩ => by
          have hin : (List.range n)[i] < n := by rw [List.getElem_range]; rw [List.length_range] at hi; exact hi
          generalize (List.range n)[i] = z at hin
          obtain ⟨y, v', e, h', _⟩ := drw hx h (m := 2) (i := 0) (en := (E v R3 u4 .un).set 10 (.dat (iD z))) (a := eC (.int 2)) rfl rfl
          refine ⟨decide (y = 1), v', b_at (e2_at e rfl (fEq_N y 1)), rfl, h', ?_⟩
          split
          · intro w hw
            rcases List.mem_append.mp hw with q | q
            · exact hy w q
            · rw [List.mem_singleton.mp q]; exact hin
          · exact hy) (by rw [List.length_range]; omega) rfl rfl
        refine wp_seq (en1 := E v1 R3 u4 (.dat (tupN T0))) (asg_at (eN_at (ds := [.list (T0.map iD)]) (tone_at (el_at e1)) rfl)) ?_
        refine wp_bind (wp_mono (Q := fun fl en => fl = .nx ∧ ∃ v T, en = E v R3 u4 (.dat (tupN T)) ∧ Ok v ∧ ∀ y ∈ T, y < n) ?_ ?_)
        · obtain ⟨y, v2, e2', h, _⟩ := drw hx h (m := 2) (i := 0) (en := E v1 R3 u4 (.dat (tupN T0))) (a := eC (.int 2)) rfl rfl
          let F : Dv → En := fun v => E v R3 u4 (.dat (tupN T0))
          refine wp_if (en1 := F v2) (b_at (e2_at e2' rfl (fEq_N y 1))) (fun _ => ?_) (fun _ => wp_next ⟨rfl, v2, T0, rfl, h, hT0⟩)
          obtain ⟨k, v3, e3, h, hk⟩ := drw hx h (m := Ls.length) (i := 0) (en := F v2) (a := eN fLen (aCons (eVar 2) aNil)) rfl (en1_of (d := FD Ls) rfl (FD_len Ls))
          have hk := hk h1
          have hfit := H.fit _ (getD_mem hk)
          have hsm := fitL_small hfit
          obtain ⟨T1, v4, e4, h, hT1⟩ := lc_runT (W := Dv) (j := 10) (im := imSeq (e2 fIx (eVar 2) (eCallD M__law_draw 0 (aCons (eN fLen (aCons (eVar 2) aNil)) aNil)))) (t := tmB (e2 fGt (eCallD M__law_draw 0 (aCons (eC (.int 4)) aNil)) (eC (.int 0)))) (m := eVar 10) (enc := iD) (xs := Ls.getD k []) (en := F v2) F (fun _ ys v => Ok v ∧ ∀ y ∈ ys, y < n) v3 ⟨h, fun y hy => by cases hy⟩ (imS_at (d := tupN (Ls.getD k [])) (e2_at (d := FD Ls) (e := iD k) rfl e3 (ix_FD hk)) rfl) (fun _ => rfl) (fun i ys v hi ⟨h, hy⟩ => by
            have hin := (fitL_mem hfit _ (List.getElem_mem hi)).1
            generalize (Ls.getD k [])[i] = z at hin
            obtain ⟨y, v', e, h', _⟩ := drw hx h (m := 4) (i := 0) (en := (F v).set 10 (.dat (iD z))) (a := eC (.int 4)) rfl rfl
            refine ⟨decide (0 < y), v', b_at (e2_at e rfl (fGt_N y 0)), rfl, h', ?_⟩
            split
            · intro w hw
              rcases List.mem_append.mp hw with q | q
              · exact hy w q
              · rw [List.mem_singleton.mp q]; exact hin
            · exact hy) (by omega) rfl rfl
          exact ⟨.nx, _, asg_at (eN_at (ds := [.list (T1.map iD)]) (tone_at (el_at e4)) rfl), rfl, v4, T1, rfl, h, hT1⟩
        · rintro fl en ⟨rfl, v, T, rfl, h, hT⟩
          show Wp _ _
          let T5 : SV := .dat (tupN T)
          refine wp_seq (en1 := skE xs v n Ls R3 u4 T5 (.own (.dv [])) .un .un .un .un .un .un .un) (newV_at (by decide)) ?_
          refine wp_bind (wp_iterI tupN rs (fun i en => ∃ kvs u7 u9 u10 u11 u12 u13, en = skE xs v n Ls R3 u4 T5 (.own (.dv kvs)) u7 .un u9 u10 u11 u12 u13 ∧ Tl n Ls T (rs.take i) kvs) (en1 := skE xs v n Ls R3 u4 T5 (.own (.dv [])) .un .un .un .un .un .un .un) (imS_at (d := .list (rs.map tupN)) rfl rfl) ⟨[], _, _, _, _, _, _, rfl, Tl.nil⟩ ?_ ?_)
          · rintro i en hi ⟨kvs, u7, u9, u10, u11, u12, u13, rfl, t⟩
            have hr : rs[i] ∈ rs := List.getElem_mem hi
            obtain ⟨hr1, hr2⟩ := hrow _ hr
            have tk : rs.take (i + 1) = rs.take i ++ [rs[i]] := by rw [List.take_succ, List.getElem?_eq_getElem hi]; rfl
            rw [tk]
            generalize rs[i] = r at hr hr1 hr2
            have tl : (rs.take i).length ≤ 32 := by rw [List.length_take]; omega
            generalize rs.take i = ts at t tl
            let K6 : SV := .own (.dv kvs)
            let R7 : SV := .dat (tupN r)
            let G : SV → SV → SV → SV → SV → En := fun u9 u10 u11 u12 u13 => skE xs v n Ls R3 u4 T5 K6 R7 .un u9 u10 u11 u12 u13
            refine ⟨G u9 u10 u11 u12 u13, rfl, ?_⟩
            refine wp_asgs (d := FD []) (en1 := G u9 u10 u11 u12 u13) rfl ?_
            refine wp_bind (wp_rngI (n := n) (fun j en => ∃ u10 u13, en = G (.dat (FD (view j Ls T r))) u10 u11 u12 u13) (en1 := G (.dat (FD [])) u10 u11 u12 u13) (tone rfl) ⟨_, _, rfl⟩ (by omega) ?_ ?_)
            · rintro j en hj ⟨u10, u13, rfl⟩
              let V9 : SV := .dat (FD (view j Ls T r))
              let J : SV := .dat (iD j)
              let g := gets Ls j r
              have gl : g.length ≤ 5 := by
                show (gets Ls j r).length ≤ 5
                unfold gets
                rw [List.length_map]
                have := List.length_filter_le (fun k => !decide (j ∈ Ls.getD k [])) (List.range Ls.length)
                rw [List.length_range] at this
                omega
              refine wp_asgs (d := tupN g) (en1 := G V9 J u11 u12 u13) (call_b (ds := [iD n, FD Ls, iD j, tupN r]) (tcons rfl (tcons rfl (tcons rfl (tone rfl)))) (gets_of_ok H hj hr1 hr2)) ?_
              let G13 : SV := .dat (tupN g)
              refine wp_no (en1 := G V9 J u11 u12 G13) (nt_ok (same_at (d := tupN g) rfl (call_b (ds := [FD Ls, iD j, tupN r]) (tcons rfl (tcons rfl (tone rfl))) (law_gets_ok h5 hr1)) (nats_sm 4 _ (by omega)))) ?_
              refine wp_if (x := decide (j ∈ T)) (en1 := G V9 J u11 u12 G13) (b_of (e2_of (d := iD j) (e := tupN T) rfl rfl (in_tup j T))) (fun q => ?_) (fun q => ?_)
              · have q := of_decide_eq_true q
                refine wp_asg (d := FD (view j Ls T r ++ [g])) (en1 := G V9 J u11 u12 G13) (e2_of (d := FD (view j Ls T r)) (e := .tuple [tupN g]) rfl rfl (fAdd_FD _ _ (by have := view_len (Ls := Ls) (T := T) (r := r) j; omega))) ⟨J, G13, ?_⟩
                rw [view_succ, if_pos q]
                rfl
              · have q := of_decide_eq_false q
                refine wp_next ⟨J, G13, ?_⟩
                rw [view_succ, if_neg q]
            · rintro en ⟨u10, u13, rfl⟩
              let w := view n Ls T r
              let V9 : SV := .dat (FD w)
              let c0 := cnt n Ls T ts w 0
              let c1 := cnt n Ls T ts w 1
              have gd : eGetDV 6 (eVar 9) (eTup (aCons (eC (.int 0)) (aCons (eC (.int 0)) aNil))) (G V9 u10 u11 u12 u13) = .ok (pairD c0 c1, G V9 u10 u11 u12 u13) := by
                have := getDV_at (i := 6) (kvs := kvs) (en := G V9 u10 u11 u12 u13) (m := eVar 9) (x := eTup (aCons (eC (.int 0)) (aCons (eC (.int 0)) aNil))) (v := w) (d := pairD 0 0) rfl rfl rfl
                rw [t.at_ w] at this
                exact this
              refine wp_asgs (d := pairD c0 c1) (en1 := G V9 u10 u11 u12 u13) gd ?_
              let C11 : SV := .dat (pairD c0 c1)
              refine wp_asgs (d := iD (r.sum % 2)) (en1 := G V9 u10 C11 u12 u13) (e2_of (d := iD r.sum) (e := iD 2) (en1_of (d := iD r.sum) (en1_of (d := tupN r) rfl (sumT_N r)) fInt_int) rfl (fMod_N (by decide))) ?_
              have hb2 : r.sum % 2 < 2 := Nat.mod_lt _ (by decide)
              have tp := t.put r
              generalize r.sum % 2 = b at hb2 tp
              let B12 : SV := .dat (iD b)
              refine wp_lap (en1 := skE xs v n Ls R3 u4 T5 (.own (.dv (putV kvs w (pairD (c0 + 1 - b) (c1 + b))))) R7 .un V9 u10 C11 B12 u13) (putV_at (i := 6) (en := G V9 u10 C11 B12 u13) (kvs := kvs) (v := w) (d := pairD (c0 + 1 - b) (c1 + b)) (tp_of (tcons (e2_of (d := iD (c0 + 1)) (e := iD b) (e2_of (d := iD c0) (e := iD 1) (e2_of (d := pairD c0 c1) (e := iD 0) rfl rfl rfl) rfl (fAdd_N _ _)) rfl (fSub_N (by omega))) (tone (e2_of (d := iD c1) (e := iD b) (e2_of (d := pairD c0 c1) (e := iD 1) rfl rfl rfl) rfl (fAdd_N _ _))))) rfl rfl (by have := t.len; omega)) ⟨_, _, _, _, _, _, _, rfl, tp⟩
          · rintro en ⟨kvs, u7, u9, u10, u11, u12, u13, rfl, t⟩
            rw [List.take_length] at t
            let K6 : SV := .own (.dv kvs)
            let G : SV → SV → En := fun u8 u9 => skE xs v n Ls R3 u4 T5 K6 u7 u8 u9 u10 u11 u12 u13
            refine wp_out (x := decide (4 < Ls.length)) (en1 := G .un u9) (en2 := G .un u9) (d := .bool true) (b_of (e2_of (d := iD Ls.length) (e := iD 4) (en1_of (d := FD Ls) rfl (FD_len Ls)) rfl (fGt_N _ _))) (fun _ => ⟨rfl, _, _, rfl, rfl, v, rfl, rfl, h⟩) (fun q => ?_)
            have q := of_decide_eq_false q
            have m4 : Ls.length ≤ 4 := by omega
            have er := hr4 m4
            subst er
            let bl := (List.range Ls.length).filter (blindAt Ls T)
            have hc := lLc_nat (j := 4) (a := aCons (eN fLen (aCons (eVar 2) aNil)) aNil) (t := tmTru (eCall M__law_within (aCons (eVar 5) (aCons (e2 fIx (eVar 2) (eVar 4)) aNil)))) (m := eVar 4) (en := G .un u9) (n := Ls.length) (blindAt Ls T) iD (tone (en1_of (d := FD Ls) rfl (FD_len Ls))) (by show 4 < 14; omega) (noOwn_one (v := u4) rfl n4) (by omega) (fun k hk => ⟨tr_of (call_b (ds := [tupN T, tupN (Ls.getD k [])]) (tcons rfl (tone (e2_of (d := FD Ls) (e := iD k) rfl rfl (ix_FD hk)))) (within_ok T _)), fun _ => rfl⟩)
            refine wp_asgs (d := iD bl.length) (en1 := G .un u9) (en1_of (d := .list (bl.map iD)) (el_at hc) (by show Rs.ok (PyData.int ((bl.map iD).length : Nat)) = _; rw [List.length_map])) ?_
            let B8 : SV := .dat (iD bl.length)
            have ek : kvs.map (fun p => vwD p.1) = (kvs.map (·.1)).map FD := by rw [List.map_map]; rfl
            refine wp_bind (wp_iterI FD (kvs.map (·.1)) (fun _ en => ∃ u9, en = G B8 u9) (en1 := G B8 u9) (imS_at (d := .list ((kvs.map (·.1)).map FD)) (el_at (by rw [← ek]; rfl)) rfl) ⟨_, rfl⟩ ?_ ?_)
            · rintro i en hi ⟨u9, rfl⟩
              have hw := t.key _ (List.getElem_mem hi)
              generalize (kvs.map (·.1))[i] = w at hw
              have hg := t.get w
              rw [if_pos hw] at hg
              let c0 := cnt n Ls T (br Ls.length) w 0
              let c1 := cnt n Ls T (br Ls.length) w 1
              let V9 : SV := .dat (FD w)
              let E2 : En := G B8 V9
              have x0 : e2 fIx (eGetV 6 (eVar 9)) (eC (.int 0)) E2 = .ok (iD c0, E2) := e2_of (d := pairD c0 c1) (e := iD 0) (getV_at (i := 6) (en := E2) rfl rfl hg) rfl rfl
              have x1 : e2 fIx (eGetV 6 (eVar 9)) (eC (.int 1)) E2 = .ok (iD c1, E2) := e2_of (d := pairD c0 c1) (e := iD 1) (getV_at (i := 6) (en := E2) rfl rfl hg) rfl rfl
              refine ⟨E2, rfl, ?_⟩
              have t0 : (decide (0 < bl.length) && !decide (c0 = c1)) = false := by
                by_cases z : 0 < bl.length
                · obtain ⟨k, hk⟩ := List.exists_mem_of_length_pos z
                  obtain ⟨hk1, hk2⟩ := List.mem_filter.mp hk
                  have : c0 = c1 := blind_even m4 (List.mem_range.mp hk1) hk2 w
                  rw [decide_eq_true this, decide_eq_true z]; rfl
                · rw [decide_eq_false z]; rfl
              have t1 : (decide (bl.length = 0) && !decide (c0 + c1 = 1)) = false := by
                by_cases z : bl.length = 0
                · have : c0 + c1 = 1 := seen_one m4 hT (fun k hk => by
                    cases q : blindAt Ls T k with
                    | false => rfl
                    | true =>
                      have : k ∈ bl := List.mem_filter.mpr ⟨List.mem_range.mpr hk, q⟩
                      rw [List.length_eq_zero_iff.mp z] at this
                      cases this) hw
                  rw [decide_eq_true this, decide_eq_true z]; rfl
                · rw [decide_eq_false z]; rfl
              refine wp_no (en1 := E2) ?_ ?_
              · rw [← t0]
                exact tmAnd_b (b_of (e2_of (d := iD bl.length) (e := iD 0) rfl rfl (fGt_N _ _))) fun _ => b_of (e2_of (d := iD c0) (e := iD c1) x0 x1 (fNe_N _ _))
              · refine wp_if (x := false) (en1 := E2) ?_ (fun q => by cases q) (fun _ => wp_next ⟨_, rfl⟩)
                rw [← t1]
                exact tmAnd_b (b_of (e2_of (d := iD bl.length) (e := iD 0) rfl rfl (fEq_N _ _))) fun _ => b_of (e2_of (d := iD (c0 + c1)) (e := iD 1) (e2_of (d := iD c0) (e := iD c1) x0 x1 (fAdd_N _ _)) rfl (fNe_N _ _))
            · rintro en ⟨u9, rfl⟩
              exact wp_ret (d := .bool true) (en1 := G B8 u9) rfl ⟨_, _, rfl, rfl, v, rfl, rfl, h⟩)
  exact ⟨v', e, q1⟩
end
end K24
end
section
set_option Elab.async false
set_option linter.all false
set_option maxRecDepth 100000
set_option maxHeartbeats 4000000
namespace K24
open PySem PySem.Spec PyProof.Rows L2 Mir
section
variable {xs : List Int} {n h m i : Nat} {Ls : List (List Nat)} {d e : D} {w : Str} {en en1 : En} {v : Dv}
theorem mulT1 (d : D) (k : Nat) (hk : k ≤ 1000) : fMulT (.tuple [d]) (iD k) = .ok (.tuple (List.replicate k d)) := by
  have h1 : ((k : Int)).toNat = k := Int.toNat_natCast k
  have e2 : (List.replicate k [d]).flatten = List.replicate k d := by
    clear h1 hk
    induction k with
    | zero => rfl
    | succ n ih => rw [List.replicate_succ, List.replicate_succ, List.flatten_cons, ih]; rfl
  unfold fMulT
  dsimp only
  rcases (by omega : k = 0 ∨ k = 1 ∨ 2 ≤ k) with rfl | rfl | q
  · rfl
  · rfl
  · rw [if_neg (by omega), if_neg (by omega), if_pos ⟨by omega, by omega, List.cons_ne_nil _ _, by show 1 ≤ 1000; omega⟩, h1, e2]
/-- is it refused by this word? -/
def refB (w : Str) : Rs D → Bool
  | .err c [(a, .int i), (b, .str u)] => decide (c = "NotUsable") && decide (a = "at") && decide (i = -1) && decide (b = "word") && decide (u = w)
  | _ => false
theorem ref_of {r : Rs D} (h : refB w r = true) : r = .err "NotUsable" (noW w) := by
  unfold refB at h
  split at h
  · simp only [Bool.and_eq_true, decide_eq_true_eq] at h
    obtain ⟨⟨⟨⟨rfl, rfl⟩, rfl⟩, rfl⟩, rfl⟩ := h
    rfl
  · cases h
theorem pieces_bit (h : bitB d = false) : M_pieces_of [d, e] = .err "NotUsable" (noW "bit") :=
  fn_err rfl (want_err (en := [.dat d, .dat e]) (call_b (ds := [d]) (tone rfl) (by rw [bit_ok, h])))
theorem pieces_throws (hz : ∀ ds, d = .tuple ds → ds.length ≤ 1000) (h : bitsB d = false) : M_pieces_of [iD 1, d] = .err "NotUsable" (noW "throws") :=
  fn_err rfl ((mSeq_nx (dropW (en := [.dat (iD 1), .dat d]) (call_b (ds := [iD 1]) (tone rfl) (bit_ok _)))).trans (want_err (call_b (ds := [d]) (tone rfl) (by rw [bits_ok hz, h]))))
theorem bit_pieces (hz : ∀ ds, d = .tuple ds → ds.length ≤ 1000) (h : bitsB d = false) : M_bit_of [d] = .err "NotUsable" (noW "pieces") :=
  fn_err rfl (want_err (en := [.dat d]) (call_b (ds := [d]) (tone rfl) (by rw [bits_ok hz, h])))
theorem dropE {c : Str} {fs : List (Str × D)} {m : Em} (h : m en = .err c fs) : mDrop m en = .err c fs := by rw [mDrop_ap, h]; rfl
def manyB : D → Bool
  | .int i => decide (1 ≤ i)
  | _ => false
theorem many_err (h : manyB d = false) : M_want_many [d] = .err "NotUsable" (noW "many") := by
  refine fn_err rfl ?_
  have t : eAnd (eCall M_is_integer (aCons (eVar 0) aNil)) (e2 fGe (eVar 0) (eC (.int 1))) [.dat d] = .ok (.bool false, [.dat d]) := by
    cases d with
    | int i =>
      have h : decide (1 ≤ i) = false := h
      exact eAnd_b (x := true) (y := false) (call_b (ds := [.int i]) (tone rfl) rfl) fun _ => e2_of (d := .int i) (e := .int 1) rfl rfl (by rw [fGe_int, h])
    | bool b => cases b <;> rfl
    | _ => rfl
  exact dropE (en := [.dat d]) (call_err (ds := [.bool false, .str "many"]) (tcons t (tone rfl)) (want_false _))
theorem gets_many (a b c : D) (h : manyB d = false) : M_gets_of [d, a, b, c] = .err "NotUsable" (noW "many") := fn_err rfl (drop_err (call_err (ds := [d]) (en1 := [.dat d, .dat a, .dat b, .dat c, .un]) (tone rfl) (many_err h)))
theorem helper_many (a b : D) (h : manyB d = false) : M_helper_of [d, a, b] = .err "NotUsable" (noW "many") := fn_err rfl (drop_err (call_err (ds := [d]) (en1 := [.dat d, .dat a, .dat b]) (tone rfl) (many_err h)))
theorem dealt_many (a : D) (h : manyB d = false) : M_dealt_pairs [d, a] = .err "NotUsable" (noW "many") := fn_err rfl (drop_err (call_err (ds := [d]) (en1 := [.dat d, .dat a, .un]) (tone rfl) (many_err h)))
theorem sums_of {c : Str} {fs : List (Str × D)} (z : D) (a b : D) (q : M_dealt_pairs [d, z] = .err c fs) : M_product_sums [d, z, a, b] = .err c fs :=
  fn_err rfl (asg_err (call_err (ds := [d, z]) (en1 := [.dat d, .dat z, .dat a, .dat b, .un, .un, .un, .un]) (tcons rfl (tone rfl)) q))
theorem gets_lots (a b : D) (h1 : 1 ≤ n) (h : M_want_lots [iD n, d] = .err "NotUsable" (noW "lots")) : M_gets_of [iD n, d, a, b] = .err "NotUsable" (noW "lots") :=
  let E : En := [.dat (iD n), .dat d, .dat a, .dat b, .un]
  fn_err rfl ((mSeq_nx (en1 := E) (en := E) (dr_of (call_b (ds := [iD n]) (tone rfl) (many_ok h1)))).trans (drop_err (call_err (ds := [iD n, d]) (en1 := E) (tcons rfl (tone rfl)) h)))
theorem dealt_lots (h1 : 1 ≤ n) (h : M_want_lots [iD n, d] = .err "NotUsable" (noW "lots")) : M_dealt_pairs [iD n, d] = .err "NotUsable" (noW "lots") :=
  let E : En := [.dat (iD n), .dat d, .un]
  fn_err rfl ((mSeq_nx (en1 := E) (en := E) (dr_of (call_b (ds := [iD n]) (tone rfl) (many_ok h1)))).trans (drop_err (call_err (ds := [iD n, d]) (en1 := E) (tcons rfl (tone rfl)) h)))
/-- a house? -/
def hsB (n : Nat) : D → Bool
  | .int i => decide (0 ≤ i) && decide (i < n)
  | _ => false
theorem gets_house (H : Lo n Ls) (b : D) (h : hsB n d = false) : M_gets_of [iD n, FD Ls, d, b] = .err "NotUsable" (noW "house") := by
  let E : En := [.dat (iD n), .dat (FD Ls), .dat d, .dat b, .un]
  refine fn_err rfl ((mSeq_nx (en1 := E) (en := E) (dr_of (call_b (ds := [iD n]) (tone rfl) (many_ok H.n1)))).trans ((mSeq_nx (en1 := E) (en := E) (dr_of (call_b (ds := [iD n, FD Ls]) (tcons rfl (tone rfl)) (want_lots_ok H)))).trans (want_err ?_)))
  have hn : M_is_number [d] = .ok (.bool (numB d)) := fn_ret rfl (en' := [.dat d]) (call_b (ds := [d]) (tone rfl) (num_ok d))
  cases d with
  | int i =>
    have h : (decide (0 ≤ i) && decide (i < (n : Int))) = false := h
    rw [← h]
    exact eAnd_b (x := decide (0 ≤ i)) (y := decide (i < (n : Int))) (call_b (ds := [.int i]) (tone rfl) hn) fun _ => e2_of (d := .int i) (e := iD n) rfl rfl (fLt_int i n)
  | _ => exact eAnd_b (x := false) (y := true) (call_b (tone rfl) hn) fun q => by cases q
theorem helper_one (e : D) (h1 : 1 ≤ n) (h : M_is_lot [iD n, d] = .ok (.bool false)) : M_helper_of [iD n, d, e] = .err "NotUsable" (noW "one") :=
  let E : En := [.dat (iD n), .dat d, .dat e]
  fn_err rfl ((mSeq_nx (en1 := E) (en := E) (dr_of (call_b (ds := [iD n]) (tone rfl) (many_ok h1)))).trans (want_err (call_b (ds := [iD n, d]) (tcons rfl (tone rfl)) h)))
theorem helper_other (h1 : 1 ≤ n) (h : M_is_lot [iD n, d] = .ok (.bool false)) : M_helper_of [iD n, .tuple [], d] = .err "NotUsable" (noW "other") :=
  let E : En := [.dat (iD n), .dat (.tuple []), .dat d]
  fn_err rfl ((mSeq_nx (en1 := E) (en := E) (dr_of (call_b (ds := [iD n]) (tone rfl) (many_ok h1)))).trans ((mSeq_nx (en1 := E) (en := E) (dropW (call_b (ds := [iD n, tupN []]) (tcons rfl (tone rfl)) (is_lot_ok h1 rfl)))).trans (want_err (call_b (ds := [iD n, d]) (tcons rfl (tone rfl)) h))))
/-- bits of a due number? -/
def goodB (m : Nat) : D → Bool
  | .tuple ds => ds.all bitB && decide (ds.length = m)
  | _ => false
theorem good_ok (i : Nat) (hz : ∀ ds, d = .tuple ds → ds.length ≤ 1000) (h1 : en[i]? = some (.dat d)) (h2 : en[1]? = some (.dat (FD Ls))) : eAnd (eCall M_is_bits (aCons (eVar i) aNil)) (e2 fEq (eN fLen (aCons (eVar i) aNil)) (eN fLen (aCons (eVar 1) aNil))) en = .ok (.bool (goodB Ls.length d), en) := by
  have v1 : eVar i en = .ok (d, en) := by rw [eVar_ap, h1]
  have v2 : eVar 1 en = .ok (FD Ls, en) := by rw [eVar_ap, h2]
  have hb := bits_ok hz
  cases d with
  | tuple ds => exact eAnd_b (x := ds.all bitB) (y := decide (ds.length = Ls.length)) (call_b (ds := [.tuple ds]) (tone v1) hb) fun _ => e2_of (d := iD ds.length) (e := iD Ls.length) (en1_of (d := .tuple ds) v1 rfl) (en1_of (d := FD Ls) v2 (FD_len Ls)) (fEq_N _ _)
  | _ => exact eAnd_b (x := false) (y := true) (call_b (tone v1) hb) fun q => by cases q
theorem gets_pieces (H : Lo n Ls) (hz : ∀ ds, d = .tuple ds → ds.length ≤ 1000) (h : goodB Ls.length d = false) : M_gets_of [iD n, FD Ls, iD 0, d] = .err "NotUsable" (noW "pieces") := by
  let E : En := [.dat (iD n), .dat (FD Ls), .dat (iD 0), .dat d, .un]
  have h1 := H.n1
  refine fn_err rfl ((mSeq_nx (en1 := E) (en := E) (dr_of (call_b (ds := [iD n]) (tone rfl) (many_ok h1)))).trans ((mSeq_nx (en1 := E) (en := E) (dr_of (call_b (ds := [iD n, FD Ls]) (tcons rfl (tone rfl)) (want_lots_ok H)))).trans ((mSeq_nx (en1 := E) (en := E) (dropW (eAnd_b (x := true) (y := true) (call_b (ds := [iD 0]) (tone rfl) (by rfl)) fun _ => e2_of (d := iD 0) (e := iD n) rfl rfl (by rw [fLt_N, decide_eq_true (show 0 < n from h1)])))).trans (want_err ?_))))
  rw [← h]
  exact good_ok 3 hz rfl rfl
theorem sums_one (H : Lo n Ls) (q : allH n Ls = true) (hz : ∀ ds, d = .tuple ds → ds.length ≤ 1000) (h : goodB Ls.length d = false) : M_product_sums [iD n, FD Ls, d, e] = .err "NotUsable" (noW "one") := by
  let E : SV → En := fun u => [.dat (iD n), .dat (FD Ls), .dat d, .dat e, u, .un, .un, .un]
  refine fn_err rfl ((mSeq_nx (en1 := E (.dat (rowsD (dealt n Ls)))) (en := E .un) (asg_at (call_b (ds := [iD n, FD Ls]) (tcons rfl (tone rfl)) (dealt_pairs_ok H q)))).trans (want_err ?_))
  rw [← h]
  exact good_ok 2 hz rfl rfl
theorem sums_other {a : List Nat} (H : Lo n Ls) (q : allH n Ls = true) (ha : ∀ x ∈ a, x ≤ 1) (la : a.length = Ls.length) (hz : ∀ ds, d = .tuple ds → ds.length ≤ 1000) (h : goodB Ls.length d = false) : M_product_sums [iD n, FD Ls, tupN a, d] = .err "NotUsable" (noW "other") := by
  let E : SV → En := fun u => [.dat (iD n), .dat (FD Ls), .dat (tupN a), .dat d, u, .un, .un, .un]
  let E1 : En := E (.dat (rowsD (dealt n Ls)))
  refine fn_err rfl ((mSeq_nx (en1 := E1) (en := E .un) (asg_at (call_b (ds := [iD n, FD Ls]) (tcons rfl (tone rfl)) (dealt_pairs_ok H q)))).trans ((mSeq_nx (en1 := E1) (en := E1) (want_bits ha rfl rfl la H.five)).trans (want_err ?_)))
  rw [← h]
  exact good_ok 3 hz rfl rfl
end
def oddL (n : Nat) : List D := [.none, .tuple [], .int 0, .str "lots", .list [.tuple []], .tuple [.tuple [.int 0], .list [.int 0]], .tuple [.int 0], .tuple [.tuple [.int 0, .int 0]], .tuple [.tuple [iD n]], .tuple [.tuple [.int (-1)]], .tuple [.tuple [.bool false]], .tuple [.tuple [.int 1, .int 0]], .tuple [.tuple [], .none], .tuple [.tuple [.int 0], .str "0"], .tuple [.tuple [.tuple [.int 0]]]]
theorem oddL_no : ∀ n ≤ 6, 1 ≤ n → (oddL n).all (fun d => refB "lots" (M_want_lots [iD n, d])) = true := by decide +kernel
def oddO (n : Nat) : List D := [.none, .int 0, .list [.int 0], .tuple [.int 0, .int 0], .tuple [iD n], .tuple [.int (-1)], .tuple [.bool false], .str "", .tuple [.str "0"]]
def noB : Rs D → Bool
  | .ok (.bool false) => true
  | _ => false
theorem no_of {r : Rs D} (h : noB r = true) : r = .ok (.bool false) := by
  unfold noB at h
  split at h
  · rfl
  · cases h
theorem oddO_no : ∀ n ≤ 6, 1 ≤ n → (oddO n).all (fun d => noB (M_is_lot [iD n, d])) = true := by decide +kernel
def oddB (m : Nat) : List D := [.none, .str "0", .list (List.replicate m (.int 0)), .tuple (List.replicate m (.bool true)), .tuple (List.replicate (m - 1) (.int 0) ++ [.int 2]), .tuple (List.replicate (m - 1) (.int 0) ++ [.none]), .tuple (List.replicate (m + 1) (.int 0)), .tuple (List.replicate (m - 1) (.int 0)), .tuple (.int (-1) :: List.replicate (m - 1) (.int 1)), .int 0]
def shB : D → Bool
  | .tuple ds => decide (ds.length ≤ 1000)
  | _ => true
theorem oddB_no : ∀ m ≤ 5, 1 ≤ m → (oddB m).all (fun d => !goodB m d && shB d) = true := by decide +kernel
theorem sh_of {d : D} (h : shB d = true) : ∀ ds, d = .tuple ds → ds.length ≤ 1000 := fun ds e => by subst e; exact of_decide_eq_true h
theorem spared_sum : ∀ n ≤ 6, 1 ≤ n → ∀ m ≤ 5, 1 ≤ m → sumsR (dealt n (List.replicate m [])) (List.replicate m 1) (List.replicate m 1) = (m * m % 2) :: List.replicate (n - 1) 0 := by decide +kernel
theorem spared_all : ∀ n ≤ 6, 1 ≤ n → ∀ m ≤ 5, 1 ≤ m → allH n (List.replicate m []) = true := by decide +kernel
end K24
end
section
set_option Elab.async false
set_option linter.all false
set_option maxRecDepth 100000
set_option maxHeartbeats 4000000
namespace K24
open PySem PySem.Spec PyProof.Rows L2 Mir
section
variable {xs : List Int} {n h m i : Nat} {Ls : List (List Nat)} {d e : D} {w : Str} {en en1 : En} {v : Dv} {A B : List Nat}
theorem not_all {k j : Nat} (hk : k < Ls.length) (hj : j < Ls.length) (q : hp n (Ls.getD k []) (Ls.getD j []) = none) : allH n Ls = false := by
  cases c : allH n Ls with
  | false => rfl
  | true =>
    have e := none_bad hk hj q
    unfold dealtD at e
    rw [if_pos c] at e
    cases e
theorem hp_none (q : ∀ h < n, h ∈ A ∨ h ∈ B) : hp n A B = none := by
  unfold hp
  rw [List.findSome?_eq_none_iff]
  intro h hh
  rw [if_pos (q h (List.mem_range.mp hh))]
theorem fit_range (p : Nat → Bool) : ∀ j ≤ n, fitL n (-1) ((List.range j).filter p) = true ∧ ∀ x ∈ (List.range j).filter p, x < j
  | 0, _ => ⟨rfl, fun x hx => by cases hx⟩
  | j + 1, hj => by
    obtain ⟨h1, h2⟩ := fit_range p j (by omega)
    refine ⟨?_, fun x hx => List.mem_range.mp (List.mem_filter.mp hx).1⟩
    rw [List.range_succ, List.filter_append, List.filter_cons, List.filter_nil]
    cases p j with
    | true => rw [if_pos rfl]; exact fit_snoc h1 h2 (by omega) (by omega)
    | false => rw [if_neg Bool.false_ne_true, List.append_nil]; exact h1
theorem fit_whole : fitL n (-1) (List.range n) = true := by
  have := (fit_range (n := n) (fun _ => true) n (Nat.le_refl n)).1
  rw [List.filter_eq_self.mpr fun _ _ => rfl] at this
  exact this
/-- a loop over a menu -/
theorem loop_all {Q : Fl → En → Prop} {im : Im} {body rest : Sm} {L : List D} {j : Nat} (E : SV → En) (u0 : SV) (ha : im (E u0) = .ok (L, E u0)) (hset : ∀ u d, (E u).set j (.dat d) = E (.dat d))
    (hb : ∀ d ∈ L, Wp (body (E (.dat d))) (Lap (fun en => ∃ u, en = E u) (Th rest Q))) (hf : ∀ u, Wp (rest (E u)) Q) : Wp (mSeq (mFor im (gmName j) body) rest (E u0)) Q := by
  refine wp_bind (wp_iterI (fun d : D => d) L (fun _ en => ∃ u, en = E u) (en1 := E u0) (by rw [List.map_id']; exact ha) ⟨u0, rfl⟩ ?_ ?_)
  · rintro i en hi ⟨u, rfl⟩
    have hm : L[i] ∈ L := List.getElem_mem hi
    generalize L[i] = d at hm
    exact ⟨E (.dat d), by rw [gmName_ap, hset], hb d hm⟩
  · rintro en ⟨u, rfl⟩
    exact hf u
def oddH (n : Nat) : List D := [iD n, .int (-1), .bool true, .bool false, .none, .str "0", .tuple [.int 0]]
theorem oddH_no : ∀ n ≤ 6, 1 ≤ n → (oddH n).all (fun d => !hsB n d) = true := by decide +kernel
theorem odd_bits_ok : ∀ m ≤ 5, 1 ≤ m → M__law_odd_bits [iD m] = .ok (.tuple (oddB m)) := by
  intro m h5 h1
  rcases (by omega : m = 1 ∨ m = 2 ∨ m = 3 ∨ m = 4 ∨ m = 5) with rfl | rfl | rfl | rfl | rfl <;> kernel_rfl
theorem odd_lots_ok (n : Nat) : M__law_odd_lots [iD n] = .ok (.tuple (oddL n)) := rfl
abbrev lrE (xs : List Int) (v : Dv) (n : Nat) (Ls : List (List Nat)) (u4 u5 u6 u7 u8 u9 u10 : SV) : En := [.own (dr xs v), .dat (iD n), .dat (FD Ls), .dat (tupN (List.replicate Ls.length 1)), u4, u5, u6, u7, u8, u9, u10]
theorem ones (m : Nat) : ∀ x ∈ List.replicate m 1, x ≤ 1 := fun x hx => by rw [(List.mem_replicate.mp hx).2]; exact Nat.le_refl 1
theorem later_ok (hx : Sh xs) (h : Ok v) (H : Lo n Ls) : ∃ v', M__law_later_refusals (dr xs v) [iD n, FD Ls, tupN (List.replicate Ls.length 1)] = .ok (.bool true, dr xs v') ∧ Ok v' := by
  have h5 := H.five
  have h6 := H.n6
  have h1 := H.one
  have n1 := H.n1
  obtain ⟨d, mo', e, v', rfl, rfl, q1⟩ := fnD_ex (m := m__law_later_refusals) (n := 11) (k := 4) (mo := dr xs v) (ds := [iD n, FD Ls, tupN (List.replicate Ls.length 1)]) (P := fun d mo' => ∃ v', d = .bool true ∧ mo' = dr xs v' ∧ Ok v') rfl (by
    show Wp (m__law_later_refusals (lrE xs v n Ls .un .un .un .un .un .un .un)) _
    refine loop_all (L := oddH n) (fun u => lrE xs v n Ls u .un .un .un .un .un .un) .un (imS_at (d := .tuple (oddH n)) rfl rfl) (fun _ _ => rfl) (fun d hd => ?_) fun u => ?_
    · have hd := List.all_eq_true.mp (oddH_no n h6 n1) d hd
      rw [Bool.not_eq_true'] at hd
      let E1 : En := lrE xs v n Ls (.dat d) .un .un .un .un .un .un
      exact wp_if (x := false) (en1 := E1) (nt_ok (ask_call (xs := xs) (v := v) (ds := [iD n, FD Ls, d, .none]) (en1 := wipeO E1) rfl (tcons rfl (tcons rfl (tcons rfl (tone rfl)))) (gets_house H _ hd))) (fun q => by cases q) (fun _ => wp_next ⟨_, rfl⟩)
    refine loop_all (L := oddO n) (fun u => lrE xs v n Ls u .un .un .un .un .un .un) u (imS_at (d := .tuple (oddO n)) rfl rfl) (fun _ _ => rfl) (fun d hd => ?_) fun u => ?_
    · have hd := no_of (List.all_eq_true.mp (oddO_no n h6 n1) d hd)
      let E1 : En := lrE xs v n Ls (.dat d) .un .un .un .un .un .un
      refine wp_no (en1 := E1) (nt_ok (ask_call (xs := xs) (v := v) (ds := [iD n, d, .none]) (en1 := wipeO E1) rfl (tcons rfl (tcons rfl (tone rfl))) (helper_one _ n1 hd))) ?_
      exact wp_if (x := false) (en1 := E1) (nt_ok (ask_call (xs := xs) (v := v) (ds := [iD n, .tuple [], d]) (en1 := wipeO E1) rfl (tcons rfl (tcons rfl (tone rfl))) (helper_other n1 hd))) (fun q => by cases q) (fun _ => wp_next ⟨_, rfl⟩)
    have es : PyData.tuple (List.replicate Ls.length (.tuple [])) = FD (List.replicate Ls.length []) := by
      show _ = PyData.tuple ((List.replicate Ls.length []).map tupN)
      rw [List.map_replicate]
      rfl
    refine wp_asgs (d := FD (List.replicate Ls.length [])) (en1 := lrE xs v n Ls u .un .un .un .un .un .un) (e2_of (d := .tuple [.tuple []]) (e := iD Ls.length) rfl (en1_of (d := FD Ls) rfl (FD_len Ls)) (by rw [mulT1 _ _ (by omega), es])) ?_
    have HS : Lo n (List.replicate Ls.length []) := ⟨n1, h6, by rw [List.length_replicate]; exact h1, by rw [List.length_replicate]; exact h5, fun L hL => by rw [(List.mem_replicate.mp hL).2]; rfl⟩
    have HA : allH n (List.replicate Ls.length []) = true := spared_all n h6 n1 Ls.length h5 h1
    have HZ : (List.replicate Ls.length ([] : List Nat)).length = Ls.length := List.length_replicate
    let S5 : SV := .dat (FD (List.replicate Ls.length []))
    refine loop_all (L := oddB Ls.length) (fun u => lrE xs v n Ls u S5 .un .un .un .un .un) u (imS_at (d := .tuple (oddB Ls.length)) (call_b (ds := [iD Ls.length]) (tone (en1_of (d := FD Ls) rfl (FD_len Ls))) (odd_bits_ok _ h5 h1)) rfl) (fun _ _ => rfl) (fun d hd => ?_) fun u => ?_
    · have hd := List.all_eq_true.mp (oddB_no Ls.length h5 h1) d hd
      rw [Bool.and_eq_true, Bool.not_eq_true'] at hd
      obtain ⟨g, hz⟩ := hd
      have hz := sh_of hz
      let E1 : En := lrE xs v n Ls (.dat d) S5 .un .un .un .un .un
      refine wp_no (en1 := E1) (nt_ok (ask_call (xs := xs) (v := v) (ds := [iD n, FD Ls, iD 0, d]) (en1 := wipeO E1) rfl (tcons rfl (tcons rfl (tcons rfl (tone rfl)))) (gets_pieces H hz g))) ?_
      refine wp_no (en1 := E1) (nt_ok (ask_call (xs := xs) (v := v) (ds := [iD n, FD (List.replicate Ls.length []), d, d]) (en1 := wipeO E1) rfl (tcons rfl (tcons rfl (tcons rfl (tone rfl)))) (sums_one HS HA hz (by rw [HZ]; exact g)))) ?_
      exact wp_if (x := false) (en1 := E1) (nt_ok (ask_call (xs := xs) (v := v) (ds := [iD n, FD (List.replicate Ls.length []), tupN (List.replicate Ls.length 1), d]) (en1 := wipeO E1) rfl (tcons rfl (tcons rfl (tcons rfl (tone rfl)))) (sums_other HS HA (ones _) (by rw [HZ, List.length_replicate]) hz (by rw [HZ]; exact g)))) (fun q => by cases q) (fun _ => wp_next ⟨_, rfl⟩)
    refine wp_asgs (d := tupN (List.range n)) (en1 := lrE xs v n Ls u S5 .un .un .un .un .un) (tupR1_ok rfl (by omega)) ?_
    let W6 : SV := .dat (tupN (List.range n))
    let F : Dv → En := fun v => lrE xs v n Ls u S5 W6 .un .un .un .un
    obtain ⟨half, v1, e1, h, hf, hlt⟩ := lc_runT (W := Dv) (j := 10) (im := imSeq (eVar 6)) (t := tmB (e2 fEq (eCallD M__law_draw 0 (aCons (eC (.int 2)) aNil)) (eC (.int 1)))) (m := eVar 10) (enc := iD) (xs := List.range n) (en := F v) F (fun i ys v => Ok v ∧ fitL n (-1) ys = true ∧ ∀ y ∈ ys, y < i) v ⟨h, rfl, fun y hy => by cases hy⟩ (imS_at (d := tupN (List.range n)) rfl rfl) (fun _ => rfl) (fun i ys v hi ⟨h, hf, hy⟩ => by
      have hin : i < n := by rw [List.length_range] at hi; exact hi
      rw [List.getElem_range]
      obtain ⟨y, v', e, h', _⟩ := drw hx h (m := 2) (i := 0) (en := (F v).set 10 (.dat (iD i))) (a := eC (.int 2)) rfl rfl
      refine ⟨decide (y = 1), v', b_at (e2_at e rfl (fEq_N y 1)), rfl, h', ?_⟩
      split
      · refine ⟨fit_snoc hf hy (by omega) hin, fun w hw => ?_⟩
        rcases List.mem_append.mp hw with q | q
        · have := hy w q; omega
        · rw [List.mem_singleton.mp q]; omega
      · exact ⟨hf, fun w hw => by have := hy w hw; omega⟩) (by rw [List.length_range]; omega) rfl rfl
    refine wp_seq (en1 := lrE xs v1 n Ls u S5 W6 (.dat (tupN half)) .un .un .un) (asg_at (eN_at (ds := [.list (half.map iD)]) (tone_at (el_at e1)) rfl)) ?_
    let H7 : SV := .dat (tupN half)
    let rest := (List.range n).filter fun h => !decide (h ∈ half)
    let F2 : En := lrE xs v1 n Ls u S5 W6 H7 .un .un .un
    have hc : lLc (imSeq (eVar 6)) [10] (gmName 10) (tmB (e2 fNotIn (eVar 10) (eVar 7))) (eVar 10) F2 = .ok (rest.map iD, F2) := by
      have := lLc_pure (j := 10) (im := imSeq (eVar 6)) (t := tmB (e2 fNotIn (eVar 10) (eVar 7))) (m := eVar 10) (en := F2) (ds := (List.range n).map iD) (fun d => match d with
        | .int z => !decide (z.toNat ∈ half)
        | _ => false) (fun d => d) (imS_at (d := tupN (List.range n)) rfl rfl) (by show 10 < 11; omega) rfl (by rw [List.length_map, List.length_range]; show n ≤ 100000; omega) (fun d hd => by
          obtain ⟨z, _, rfl⟩ := List.mem_map.mp hd
          exact ⟨b_of (e2_of (d := iD z) (e := tupN half) rfl rfl (notIn_tup z half)), fun _ => rfl⟩)
      rw [this, List.map_id', List.filter_map]
      rfl
    refine wp_asgs (d := tupN rest) (en1 := F2) (en1_of (d := .list (rest.map iD)) (el_at hc) rfl) ?_
    let R8 : SV := .dat (tupN rest)
    have fr : fitL n (-1) rest = true := (fit_range (n := n) (fun h => !decide (h ∈ half)) n (Nat.le_refl n)).1
    have cov : ∀ h < n, h ∈ half ∨ h ∈ rest := fun h hh => by
      by_cases c : h ∈ half
      · exact .inl c
      · exact .inr (List.mem_filter.mpr ⟨List.mem_range.mpr hh, by rw [decide_eq_false c]; rfl⟩)
    let bads : List (List (List Nat)) := [[List.range n], [[], List.range n], [half, rest], [rest, [], half]]
    have bad : ∀ F ∈ bads, Lo n F ∧ allH n F = false := by
      have fw := fit_whole (n := n)
      have hw : hp n (List.range n) (List.range n) = none := hp_none fun h hh => .inl (List.mem_range.mpr hh)
      have c1 : hp n half rest = none := hp_none cov
      have c2 : hp n rest half = none := hp_none fun h hh => (cov h hh).symm
      intro F hF
      rcases List.mem_cons.mp hF with rfl | hF
      · refine ⟨⟨n1, h6, by show 1 ≤ 1; omega, by show 1 ≤ 5; omega, fun L hL => ?_⟩, not_all (k := 0) (j := 0) (by show 0 < 1; omega) (by show 0 < 1; omega) hw⟩
        rw [List.mem_singleton.mp hL]; exact fw
      rcases List.mem_cons.mp hF with rfl | hF
      · refine ⟨⟨n1, h6, by show 1 ≤ 2; omega, by show 2 ≤ 5; omega, fun L hL => ?_⟩, not_all (k := 1) (j := 1) (by show 1 < 2; omega) (by show 1 < 2; omega) hw⟩
        rcases List.mem_cons.mp hL with rfl | hL
        · rfl
        · rw [List.mem_singleton.mp hL]; exact fw
      rcases List.mem_cons.mp hF with rfl | hF
      · refine ⟨⟨n1, h6, by show 1 ≤ 2; omega, by show 2 ≤ 5; omega, fun L hL => ?_⟩, not_all (k := 0) (j := 1) (by show 0 < 2; omega) (by show 1 < 2; omega) c1⟩
        rcases List.mem_cons.mp hL with rfl | hL
        · exact hf
        · rw [List.mem_singleton.mp hL]; exact fr
      · rw [List.mem_singleton.mp hF]
        refine ⟨⟨n1, h6, by show 1 ≤ 3; omega, by show 3 ≤ 5; omega, fun L hL => ?_⟩, not_all (k := 0) (j := 2) (by show 0 < 3; omega) (by show 2 < 3; omega) c2⟩
        rcases List.mem_cons.mp hL with rfl | hL
        · exact fr
        rcases List.mem_cons.mp hL with rfl | hL
        · rfl
        · rw [List.mem_singleton.mp hL]; exact hf
    refine wp_bind (wp_iterI FD bads (fun _ en => ∃ u9, en = lrE xs v1 n Ls u S5 W6 H7 R8 u9 .un) (en1 := lrE xs v1 n Ls u S5 W6 H7 R8 .un .un) (imS_at (d := .tuple (bads.map FD)) rfl rfl) ⟨_, rfl⟩ ?_ ?_)
    · rintro i en hi ⟨u9, rfl⟩
      obtain ⟨HF, HN⟩ := bad _ (List.getElem_mem hi)
      generalize bads[i] = F at HF HN
      have er := dealt_pairs_err HF HN
      let E1 : En := lrE xs v1 n Ls u S5 W6 H7 R8 (.dat (FD F)) .un
      refine ⟨E1, rfl, ?_⟩
      refine wp_no (en1 := E1) (nt_ok (ask_call (xs := xs) (v := v1) (ds := [iD n, FD F]) (en1 := wipeO E1) rfl (tcons rfl (tone rfl)) er)) ?_
      exact wp_if (x := false) (en1 := E1) (nt_ok (ask_call (xs := xs) (v := v1) (ds := [iD n, FD F, iD 0, iD 0]) (en1 := wipeO E1) rfl (tcons rfl (tcons rfl (tcons rfl (tone rfl)))) (sums_of _ _ _ er))) (fun q => by cases q) (fun _ => wp_next ⟨_, rfl⟩)
    · rintro en ⟨u9, rfl⟩
      let E1 : En := lrE xs v1 n Ls u S5 W6 H7 R8 u9 .un
      let row := List.replicate Ls.length 1
      let due : List Nat := (Ls.length * Ls.length % 2) :: List.replicate (n - 1) 0
      have le : eN fLen (aCons (eVar 2) aNil) E1 = .ok (iD Ls.length, E1) := en1_of (d := FD Ls) rfl (FD_len Ls)
      have ps : M_product_sums [iD n, FD (List.replicate Ls.length []), tupN row, tupN row] = .ok (tupN due) := by
        rw [product_sums_ok HS HA (ones _) (ones _) (by rw [HZ, List.length_replicate]) (by rw [HZ, List.length_replicate]), spared_sum n h6 n1 Ls.length h5 h1]
      have dz : PyData.tuple (List.replicate (n - 1) (.int 0)) = tupN (List.replicate (n - 1) 0) := by
        show _ = PyData.tuple ((List.replicate (n - 1) 0).map iD)
        rw [List.map_replicate]
        rfl
      have mm : Ls.length * Ls.length ≤ 5 * 5 := Nat.mul_le_mul h5 h5
      refine wp_ret (d := .bool true) (en1 := E1) (same_at (d := tupN due) (call_b (ds := [iD n, FD (List.replicate Ls.length []), tupN row, tupN row]) (tcons rfl (tcons rfl (tcons rfl (tone rfl)))) ps) (e2_of (d := .tuple [iD (Ls.length * Ls.length % 2)]) (e := tupN (List.replicate (n - 1) 0)) (tp_of (tone (e2_of (d := iD (Ls.length * Ls.length)) (e := iD 2) (en1_of (d := iD (Ls.length * Ls.length)) (e2_of (d := iD Ls.length) (e := iD Ls.length) le le (fMul_N (by omega) (by omega))) fInt_int) rfl (fMod_N (by decide))))) (e2_of (d := .tuple [.int 0]) (e := iD (n - 1)) rfl (e2_of (d := iD n) (e := iD 1) rfl rfl (fSub_N n1)) (by rw [mulT1 _ _ (by omega), dz])) ?_) (nats_sm 4 _ (by show (List.replicate (n - 1) 0).length + 1 ≤ 1000; rw [List.length_replicate]; omega))) ⟨_, _, rfl, rfl, v1, rfl, rfl, h⟩
      show (if ([iD (Ls.length * Ls.length % 2)] : List D).length + ((List.replicate (n - 1) 0).map iD).length ≤ big then Rs.ok (PyData.tuple ([iD (Ls.length * Ls.length % 2)] ++ (List.replicate (n - 1) 0).map iD)) else .stk) = _
      rw [if_pos (by rw [List.length_map, List.length_replicate]; show 1 + (n - 1) ≤ 100000; omega)]
      rfl)
  exact ⟨v', e, q1⟩
end
end K24
end
section
set_option Elab.async false
set_option linter.all false
set_option maxRecDepth 100000
set_option maxHeartbeats 4000000
namespace K24
open PySem PySem.Spec PyProof.Rows L2 Mir
section
variable {xs : List Int} {n h m i : Nat} {Ls : List (List Nat)} {d e : D} {w : Str} {en en1 en2 : En} {v v1 v' : Dv}
abbrev rfE (xs : List Int) (v : Dv) (n : Nat) (Ls : List (List Nat)) (u4 : SV) : En := [.own (dr xs v), .dat (iD n), .dat (FD Ls), .dat (tupN (List.replicate Ls.length 1)), u4]
def odd1 : List D := [.int 2, .int (-1), .bool true, .bool false, .none, .str "1", .tuple [.int 1], .list [.int 0]]
theorem odd1_no : odd1.all (fun d => !bitB d) = true := by decide +kernel
def odd2 : List D := [.none, .list [.int 1], .tuple [.bool true], .tuple [.int 0, .int 2], .str "", .int 0, .tuple [.int 0, .none], .tuple [.int (-1)], .tuple [.tuple [.int 0]]]
theorem odd2_no : odd2.all (fun d => !bitsB d && shB d) = true := by decide +kernel
def odd3 : List D := [.int 0, .int (-1), .bool true, .none, .str "2", .tuple [.int 2], .list [.int 2]]
theorem odd3_no : odd3.all (fun d => !manyB d) = true := by decide +kernel
theorem law_refusals_ok (hx : Sh xs) (h : Ok v) (H : Lo n Ls) : ∃ v', M__law_refusals (dr xs v) [iD n, FD Ls] = .ok (.bool true, dr xs v') ∧ Ok v' := by
  have h5 := H.five
  have h6 := H.n6
  have h1 := H.one
  have n1 := H.n1
  obtain ⟨d, mo', e, v', rfl, rfl, q1⟩ := fnD_ex (m := m__law_refusals) (n := 5) (k := 3) (mo := dr xs v) (ds := [iD n, FD Ls]) (P := fun d mo' => ∃ v', d = .bool true ∧ mo' = dr xs v' ∧ Ok v') rfl (by
    show Wp (m__law_refusals [.own (dr xs v), .dat (iD n), .dat (FD Ls), .un, .un]) _
    have es : PyData.tuple (List.replicate Ls.length (.int 1)) = tupN (List.replicate Ls.length 1) := by
      show _ = PyData.tuple ((List.replicate Ls.length 1).map iD)
      rw [List.map_replicate]
      rfl
    refine wp_asgs (d := tupN (List.replicate Ls.length 1)) (en1 := [.own (dr xs v), .dat (iD n), .dat (FD Ls), .un, .un]) (e2_of (d := .tuple [.int 1]) (e := iD Ls.length) rfl (en1_of (d := FD Ls) rfl (FD_len Ls)) (by rw [mulT1 _ _ (by omega), es])) ?_
    let E : SV → En := fun u => rfE xs v n Ls u
    refine loop_all (L := odd1) E .un (imS_at (d := .tuple odd1) rfl rfl) (fun _ _ => rfl) (fun d hd => ?_) fun u => ?_
    · have hd := List.all_eq_true.mp odd1_no d hd
      rw [Bool.not_eq_true'] at hd
      let E1 : En := E (.dat d)
      refine wp_no (en1 := E1) (nt_ok (ask_call (xs := xs) (v := v) (ds := [d, .none]) (en1 := wipeO E1) rfl (tcons rfl (tone rfl)) (pieces_bit hd))) ?_
      exact wp_if (x := false) (en1 := E1) (nt_ok (ask_call (xs := xs) (v := v) (ds := [d, .tuple [.int 0]]) (en1 := wipeO E1) rfl (tcons rfl (tone rfl)) (pieces_bit hd))) (fun q => by cases q) (fun _ => wp_next ⟨_, rfl⟩)
    refine loop_all (L := odd2) E u (imS_at (d := .tuple odd2) rfl rfl) (fun _ _ => rfl) (fun d hd => ?_) fun u => ?_
    · have hd := List.all_eq_true.mp odd2_no d hd
      rw [Bool.and_eq_true, Bool.not_eq_true'] at hd
      obtain ⟨g, hz⟩ := hd
      have hz := sh_of hz
      let E1 : En := E (.dat d)
      refine wp_no (en1 := E1) (nt_ok (ask_call (xs := xs) (v := v) (ds := [iD 1, d]) (en1 := wipeO E1) rfl (tcons rfl (tone rfl)) (pieces_throws hz g))) ?_
      exact wp_if (x := false) (en1 := E1) (nt_ok (ask_call (xs := xs) (v := v) (ds := [d]) (en1 := wipeO E1) rfl (tone rfl) (bit_pieces hz g))) (fun q => by cases q) (fun _ => wp_next ⟨_, rfl⟩)
    refine loop_all (L := odd3) E u (imS_at (d := .tuple odd3) rfl rfl) (fun _ _ => rfl) (fun d hd => ?_) fun u => ?_
    · have hd := List.all_eq_true.mp odd3_no d hd
      rw [Bool.not_eq_true'] at hd
      let E1 : En := E (.dat d)
      refine wp_no (en1 := E1) (nt_ok (ask_call (xs := xs) (v := v) (ds := [d, .none, .int 0, .tuple []]) (en1 := wipeO E1) rfl (tcons rfl (tcons rfl (tcons rfl (tone rfl)))) (gets_many _ _ _ hd))) ?_
      refine wp_no (en1 := E1) (nt_ok (ask_call (xs := xs) (v := v) (ds := [d, .tuple [], .tuple []]) (en1 := wipeO E1) rfl (tcons rfl (tcons rfl (tone rfl))) (helper_many _ _ hd))) ?_
      refine wp_no (en1 := E1) (nt_ok (ask_call (xs := xs) (v := v) (ds := [d, .int 0]) (en1 := wipeO E1) rfl (tcons rfl (tone rfl)) (dealt_many _ hd))) ?_
      exact wp_if (x := false) (en1 := E1) (nt_ok (ask_call (xs := xs) (v := v) (ds := [d, FD Ls, tupN (List.replicate Ls.length 1), tupN (List.replicate Ls.length 1)]) (en1 := wipeO E1) rfl (tcons rfl (tcons rfl (tcons rfl (tone rfl)))) (sums_of _ _ _ (dealt_many _ hd)))) (fun q => by cases q) (fun _ => wp_next ⟨_, rfl⟩)
    refine loop_all (L := oddL n) E u (imS_at (d := .tuple (oddL n)) (call_b (ds := [iD n]) (tone rfl) (odd_lots_ok n)) rfl) (fun _ _ => rfl) (fun d hd => ?_) fun u => ?_
    · have hd := ref_of (List.all_eq_true.mp (oddL_no n h6 n1) d hd)
      let E1 : En := E (.dat d)
      refine wp_no (en1 := E1) (nt_ok (ask_call (xs := xs) (v := v) (ds := [iD n, d, iD n, .none]) (en1 := wipeO E1) rfl (tcons rfl (tcons rfl (tcons rfl (tone rfl)))) (gets_lots _ _ n1 hd))) ?_
      refine wp_no (en1 := E1) (nt_ok (ask_call (xs := xs) (v := v) (ds := [iD n, d]) (en1 := wipeO E1) rfl (tcons rfl (tone rfl)) (dealt_lots n1 hd))) ?_
      exact wp_if (x := false) (en1 := E1) (nt_ok (ask_call (xs := xs) (v := v) (ds := [iD n, d, .none, tupN (List.replicate Ls.length 1)]) (en1 := wipeO E1) rfl (tcons rfl (tcons rfl (tcons rfl (tone rfl)))) (sums_of _ _ _ (dealt_lots n1 hd)))) (fun q => by cases q) (fun _ => wp_next ⟨_, rfl⟩)
    obtain ⟨v', e', h'⟩ := later_ok hx h H
    exact wp_ret (d := .bool true) (en1 := rfE xs v' n Ls u) (callD_at (i := 0) (ds := [iD n, FD Ls, tupN (List.replicate Ls.length 1)]) rfl (tcons rfl (tcons rfl (tone rfl))) e') ⟨_, _, rfl, rfl, v', rfl, rfl, h'⟩)
  exact ⟨v', e, q1⟩
theorem by_hand_ok : M__law_by_hand [] = .ok (.bool true) := by kernel_rfl
theorem callD_to {m : MO → List D → Rs (D × MO)} {i : Nat} {a : Am} {ds : List D} (he : en[i]? = some (.own (dr xs v))) (ha : a en = .ok (ds, en1)) (h1 : en1[i]? = some (.own (dr xs v1))) (hm : m (dr xs v1) ds = .ok (d, dr xs v')) : eCallD m i a en = .ok (d, en1.set i (.own (dr xs v'))) := by
  have p : pinAt en i = some (dr xs v) := by rw [pinAt_ap, he]; rfl
  have p1 : pinAt en1 i = some (dr xs v1) := by rw [pinAt_ap, h1]; rfl
  rw [eCallD_ap, p]
  dsimp only
  rw [ha, bind_ok]
  dsimp only
  rw [p1]
  dsimp only
  rw [hm]
  rfl
theorem or_to {a b : Mir.Tm} {y : Bool} (ha : a en = .ok (false, en1)) (hb : b en1 = .ok (y, en2)) : tmOr a b en = .ok (y, en2) := by
  rw [tmOr_ap, ha, bind_ok]
  exact hb
theorem nt_to {m : Em} (h : m en = .ok (.bool true, en1)) : tmNot (tmTru m) en = .ok (false, en1) := by
  rw [tmNot_ap, tmTru_ap, h, bind_ok]
  rfl
theorem sh_of_bits (hb : ∀ z ∈ xs, Builtin.Int.intBits z ≤ 1048576) : Sh xs := fun c hc => by
  have := hb c hc
  unfold Builtin.Int.intBits at this
  split at this
  · rename_i q
    rw [beq_iff_eq] at q
    subst q
    decide
  · omega
theorem law_true (ns : List Int) (hl : ns.length ≤ 63) (hb : ∀ z ∈ ns, Builtin.Int.intBits z ≤ 1048576) : M_law [.list (ns.map PyData.int)] = .ok (.bool true) := by
  have hx := sh_of_bits hb
  let v0 : Dv := ⟨0, 0, 5381 + 31 * ns.length⟩
  have h : Ok v0 := by show 5381 + 31 * ns.length < 2 ^ 31; omega
  let E : Dv → SV → SV → En := fun v u2 u3 => [.dat (.list (ns.map PyData.int)), .own (dr ns v), u2, u3]
  have w : Wp (m_law [.own (.scr (ns.map PyData.int)), .un, .un, .un]) (Is (.bool true)) := by
    refine wp_seq (en1 := E v0 .un .un) ?_ ?_
    · have e1 : lCall M__law_start (aCons (eScr 0) aNil) [.own (.scr (ns.map PyData.int)), .un, .un, .un] = .ok ([.list (ns.map PyData.int), iD 0, iD 0, iD (5381 + 31 * ns.length)], [.own (.scr (ns.map PyData.int)), .un, .un, .un]) := by
        rw [lCall_ap]
        show ((Rs.ok (([PyData.list (ns.map PyData.int)] : List D), ([.own (.scr (ns.map PyData.int)), .un, .un, .un] : En))).bind _) = _
        rw [bind_ok]
        dsimp only
        rw [start_ok hl]
        rfl
      unfold mAsgT
      rw [if_neg (by decide), e1, bind_ok]
      rfl
    obtain ⟨k, v1, e1, h, hk⟩ := drw hx h (m := 6) (i := 1) (en := E v0 .un .un) (a := eC (.int 6)) rfl rfl
    have hk := hk (by decide)
    refine wp_seq (en1 := E v1 (.dat (iD (1 + k))) .un) (asg_at (e2_at (d := iD 1) (e := iD k) rfl e1 (fAdd_N _ _))) ?_
    have hn : 1 + k ≤ 6 := by omega
    have hn1 : 1 ≤ 1 + k := by omega
    generalize 1 + k = n at hn hn1
    let N : SV := .dat (iD n)
    obtain ⟨Ls, v2, e2', h, H⟩ := law_lots_ok hx h hn1 hn
    refine wp_seq (en1 := E v2 N (.dat (FD Ls))) (asg_at (callD_at (i := 1) (ds := [iD n]) (en := E v1 N .un) rfl (tone rfl) e2')) ?_
    let L : SV := .dat (FD Ls)
    obtain ⟨b, v3, e3, h, hb3⟩ := drw hx h (m := 2) (i := 1) (en := E v2 N L) (a := eC (.int 2)) rfl rfl
    have hb3 := hb3 (by decide)
    obtain ⟨v4, e4, h⟩ := law_pieces_ok (b := b) hx h (by omega)
    refine wp_no (en1 := E v4 N L) (or_to (en1 := E v2 N L) (nt_ok (call_b (ds := []) rfl by_hand_ok)) (nt_to (callD_to (i := 1) (v := v2) (v1 := v3) (en := E v2 N L) (en1 := E v3 N L) rfl (tone_at e3) rfl e4))) ?_
    obtain ⟨v5, e5, h⟩ := law_products_ok hx h H
    obtain ⟨v6, e6, h⟩ := law_seen_ok hx h H
    refine wp_no (en1 := E v6 N L) (or_to (en1 := E v5 N L) (nt_to (callD_at (i := 1) (en := E v4 N L) (ds := [iD n, FD Ls]) rfl (tcons rfl (tone rfl)) e5)) (nt_to (callD_at (i := 1) (en := E v5 N L) (ds := [iD n, FD Ls]) rfl (tcons rfl (tone rfl)) e6))) ?_
    obtain ⟨v7, e7, h⟩ := law_refusals_ok hx h H
    exact wp_ret (d := .bool true) (en1 := E v7 N L) (callD_at (i := 1) (en := E v6 N L) (ds := [iD n, FD Ls]) rfl (tcons rfl (tone rfl)) e7) rfl
  obtain ⟨fl, en', e, q⟩ := w
  show ((endOf (m_law [.own (.scr (ns.map PyData.int)), .un, .un, .un])).bind fun p => Rs.ok p.1) = _
  rw [e]
  cases fl with
  | nx => exact nomatch (show PyData.bool true = .none from q)
  | rt r => have q : r = .bool true := q; subst q; rfl
  | _ => exact absurd q (by intro q; exact q)
end
end K24
end
section
set_option Elab.async false
set_option linter.all false
set_option maxRecDepth 100000
set_option maxHeartbeats 0
namespace K24
open PySem PySem.Spec PyProof.Rows L2 Mir
abbrev R : PySem.W.OpenRow := PySem.W.OpenLaw.row PySem.Challenge.rw_closereckoned_k24_whole_pieces_and_produ
abbrev lawAt : Nat := 51
abbrev hk : PySem.W.Hook := hookX 4 faL fnL ysL
def ob (s : PySem.W.SharedT) : AlM := obsNX 4 faL fnL ysL (HandSHeadRun.getT s)
theorem ob_eq (s : PySem.W.SharedT) : ob s = hk.obs s.abs := obsNX_eq (HandSHeadRun.getT_eq s)
def namesA : List PySem.Str := ["ReckonError", "GroundError", "NotUsable", "a_want", "integer_fits", "number_fits", "many_fits", "house_fits", "lot_fits", "is_lots", "is_integer", "is_number", "is_bit", "is_lot", "is_bits", "want_many", "want_lots", "least_outside", "dealt_to", "helper_of", "dealt_pairs", "product_sums", "pieces_of", "bit_of", "gets_of", "_law_start", "_law_draw", "_law_bits", "_law_lots", "_law_within"]
def namesB : List PySem.Str := (["_law_helper", "_law_dealt", "_law_gets", "_law_sums", "_law_same", "_law_refused", "_law_by_hand", "_law_pieces", "_law_seen", "_law_odd_lots", "_law_odd_bits"] : List PySem.Str)
def names1 : List PySem.Str := namesA ++ namesB
theorem run_looks (w : World) : LooksEq R 4000 w := fun os => by kernel_rfl
theorem run_seen (w : World) : SeenEq R (PySem.W.view R.prog [45, 49, 50, lawAt]) 4000 names1 w := fun os => by kernel_rfl
theorem run_obs (w : World) : ObsEq R hk ob 4000 w := fun os => by kernel_rfl
theorem run (w : World) : HandSHeadRun.RunEq R (PySem.W.view R.prog [45, 49, 50, lawAt]) hk ob 4000 names1 w := runEq_of (run_looks w) (run_seen w) (run_obs w)
theorem facts {P : Program} {w : World} {K : PySem.W.Frag} {h : Heap} {mg : Str → Option Value} {f : Addr} (X : K.In h) (G : h.Ns mainGlobals mg) (hfa : mg ("law" : Str) = some (.ref f)) (c : SaysM faL fnL ysL K) :
    ∃ fd : FuncData, (∀ (s : Shared) (u : Value), BindsTo s fd ⟨[u], []⟩ [(("_law_script" : Str), u)]) ∧ ∀ base : Heap, K.In base → base.Ns mainGlobals mg → LamB K mg base → FnG P w K mg base (CxK.cx P w) 13 f fd [("_law_script" : Str)] (spL K mg M_law) := by
  have T : TX K mg := tx_of X G c
  obtain ⟨fd, F0⟩ := T.says.def_ (d := d_law) (mem_at 41 rfl)
  have F : FunD K d_law.name d_law.qual d_law.params d_law.body d_law.scope [] [] (He.fAd K d_law.at_) fd := F0
  have glo : mg d_law.name = some (.ref (He.fAd K d_law.at_)) := T.glo "law" (mem_at 41 rfl)
  have e := hfa.symm.trans glo
  injection e with e
  injection e with e
  subst e
  have b := FunD.bindsA (ps := [("_law_script" : Str)]) F fun _ _ _ _ _ _ us hl => match us, hl with | [_], _ => rfl
  refine ⟨fd, fun s u => b s [u] rfl, fun base _ _ LB => ?_⟩
  obtain ⟨⟨fd2, F2, Fn, _⟩, _⟩ := cal_law (P := P) (w := w) (base := base) T
  have e2 : fd2 = fd := by
    obtain ⟨_, _, _, _, _, _, _, _, _, _, _, l1, _⟩ := F.ex
    obtain ⟨_, _, _, _, _, _, _, _, _, _, _, l2, _⟩ := F2.ex
    rw [l1] at l2
    cases l2
    rfl
  rw [← e2]
  exact Fn
end K24
open PySem PySem.W PySem.Calls PyProof.Rows
theorem PySem.Challenge.cw_closereckoned_k24_whole_pieces_and_produ_holds : PySem.Challenge.rw_closereckoned_k24_whole_pieces_and_produ.Holds := by
  w_on; o_law
  refine HandSHeadRun.head_any (r := OpenLaw.row PySem.Challenge.rw_closereckoned_k24_whole_pieces_and_produ) (q := view (OpenLaw.row PySem.Challenge.rw_closereckoned_k24_whole_pieces_and_produ).prog [45, 49, 50, K24.lawAt]) (H := K24.hk) (ob := K24.ob) (M := 4000) (loose := K24.names1) (d := HandSHeadRun.topDef (OpenLaw.row PySem.Challenge.rw_closereckoned_k24_whole_pieces_and_produ).prog K24.lawAt) (kwd := []) K24.ob_eq
    (by kernel_rfl) (fun s => by kernel_rfl) K24.run (by kernel_rfl) (by kernel_rfl) (by kernel_rfl) (by rfl) (by first | assumption | decide +kernel) (by decide +kernel) ⟨rfl, rfl, rfl, rfl, rfl, by decide +kernel⟩ ?hw ?hc
  case hw => w_witness2
  case hc =>
    refine Mir.walk_ofGT (l := PySem.Challenge.rw_closereckoned_k24_whole_pieces_and_produ) (n := 63) (k := 13) (x := "_law_script") rfl (by decide) (by kernel_rfl) ⟨rfl, by decide, by decide⟩ ?F
    intro w mg fa h Y G hmg0
    obtain ⟨K, KX, c⟩ := Y
    have hmg : mg ("law" : PySem.Str) = some (.ref fa) := by
      have e : (HandSHeadRun.topDef (OpenLaw.row PySem.Challenge.rw_closereckoned_k24_whole_pieces_and_produ).prog K24.lawAt).name = ("law" : PySem.Str) := by kernel_rfl
      rw [← e]
      exact hmg0
    obtain ⟨fd, hb, hF⟩ := K24.facts (P := (PySem.Challenge.rw_closereckoned_k24_whole_pieces_and_produ).prog) (w := w) KX G hmg c
    have T : K24.TX K mg := Mir.tx_of KX G c
    refine ⟨K, fd, Mir.spL K mg K24.M_law, KX, fun y hy => ?_, K24.tabs_out T, K24.tabs_nd T, hb, fun H a ns hl hbits hT hS => Mir.spL_start (K24.law_true ns hl hbits) hT hS, hF⟩
    simp only [Mir.lamNames, List.mem_cons, List.not_mem_nil, or_false] at hy
    rcases hy with rfl | rfl | rfl
    · exact .inr (Option.isSome_iff_exists.mp (by kernel_rfl))
    · exact .inr (Option.isSome_iff_exists.mp (by kernel_rfl))
    · exact .inr (Option.isSome_iff_exists.mp (by kernel_rfl))
end
