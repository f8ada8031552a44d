import PyProof.Rows.All
import Wide.All
import OpenK.AllK
import Wide.FinOn
import HandS.ForMost
import HandS.Flow
import HandS.Deep
import HandS.TupAny
import HandS.Codes
import HandS.IsInst
import HandS.Style
import HandS.Wide
import HandS.Zip
import HandS.Rev
import HandS.Lambda
import HandS.Exc
import HandS.TupLe
import KE.DataMinMax
import KE.SortData
import HandS.Conv
import HandS.Ends
import HandS.RaiseMore
import KE.DataFind
import HandS.Flt
import HandS.ExcIs
import HandS.ExcValue
import HandS.WordsExc
import HandS.Dict
import KE.KDictDisplayH
import HandS.ReplaceLit
import KE.GoesMore
import KE.GoesEnum
import HandS.Set
import HandS.SetBool
import PyProof.MeetsSeq2
import HandS.Text
import KE.SortKeyHeap
import KE.KDictSum
import KE.KDictCopyH
import HandS.SetKeys
import HandS.EndTab
import HandS.Strs
import HandS.NoneIn
import HandS.DictComp
import PyProof.DictWalks
import HandS.SetTxt0
import HandS.Keys
import PySem.Challenge.RW_changeride_k18_rounds_begun_elsewhere
set_option Elab.async false
set_option linter.all false
set_option maxRecDepth 100000

set_option maxHeartbeats 4000000
namespace Fu
open PySem PySem.Spec PyProof.Rows L2

/-! ### the frame: what may be forgotten for the time of a call -/
def Loose : HO → Prop
  | .lst _ => True
  | .dK _ => True
  | .dT _ => True
  | .set _ _ => True
  | _ => False
def lpins (H G : Hp) (h : Heap) : List (Addr × Obj) :=
  (List.range h.objs.size).filterMap fun a => if (H a).isSome = true ∧ (G a).isNone = true then (h.get? a).map fun o => (a, o) else none
theorem mem_lpins {H G : Hp} {h : Heap} {a : Addr} {o : Obj} {u : HO} (h1 : H a = some u) (h2 : G a = none) (h3 : h.get? a = some o) : (a, o) ∈ lpins H G h :=
  List.mem_filterMap.mpr ⟨a, List.mem_range.mpr (Heap.lt_size h3), by simp [h1, h2, h3]⟩
theorem of_lpins {H G : Hp} {h : Heap} {p : Addr × Obj} (hp : p ∈ lpins H G h) : (∃ u, H p.1 = some u) ∧ G p.1 = none ∧ h.get? p.1 = some p.2 := by
  obtain ⟨b, _, e⟩ := List.mem_filterMap.mp hp
  split at e
  · rename_i hc
    cases q : h.get? b with
    | none => rw [q] at e; cases e
    | some u =>
      rw [q] at e
      have e' : (b, u) = p := Option.some.inj e
      subst e'
      exact ⟨Option.isSome_iff_exists.mp hc.1, Option.isNone_iff_eq_none.mp hc.2, q⟩
  · cases e
/-- G within H: what is over may be forgotten -/
structure Sub (G H : Hp) : Prop where
  same : Same G H
  loose : ∀ a o, H a = some o → G a = none → Loose o
theorem Sub.none {G H : Hp} (S : Sub G H) {b : Addr} (e : H b = none) : G b = none := S.same.free e
theorem Sub.keep {G H : Hp} (S : Sub G H) {b : Addr} {o : HO} (e : H b = some o) (n : ¬ Loose o) : G b = some o := by
  cases q : G b with
  | none => exact absurd (S.loose b o e q) n
  | some u => rw [S.same b u q] at e; exact e
theorem Sub.refl (H : Hp) : Sub H H := ⟨Same.refl H, fun a o e n => by rw [e] at n; cases n⟩
def mixH (G H G' : Hp) : Hp := fun a => match G a, H a with
  | none, some o => some o
  | _, _ => G' a
theorem mix_lost {G H G' : Hp} {a : Addr} {o : HO} (h1 : G a = none) (h2 : H a = some o) : mixH G H G' a = some o := by unfold mixH; rw [h1, h2]
theorem mix_held {G H G' : Hp} {a : Addr} {o : HO} (h1 : G a = some o) : mixH G H G' a = G' a := by unfold mixH; rw [h1]
theorem mix_free {G H G' : Hp} {a : Addr} (h2 : H a = none) : mixH G H G' a = G' a := by unfold mixH; rw [h2]; cases G a <;> rfl

section
variable {X : Cx} {pins : List (Addr × Obj)} {σ : L2.St} {H G G' : Hp} {s s' : Shared}
theorem fs_none (I : Inv X pins σ H s) {b : Addr} (hb : b ∈ X.fs) : H b = none := by
  obtain ⟨_, o, ho, _⟩ := I.ok.funs.mem hb
  exact I.base.free b o ho (I.ok.frf b hb) fun z => I.ok.exfs b z hb
theorem loose_cell {P : Program} {w : World} {h : Heap} {a : Addr} {u : HO} {o : Obj} (x : ObjOk P w H h a u) (l : Loose u) (e : h.get? a = some o) : ∀ v, o.data ≠ .cell v := by
  intro v z
  cases u with
  | lst xs => obtain ⟨_, its, n, _, e1⟩ := x; rw [e] at e1; cases e1; cases z
  | dK kvs => obtain ⟨_, _, vs, _, ob, es, ep, e1, _, d, _⟩ := x; rw [e] at e1; cases e1; rw [d] at z; cases z
  | dT kvs => obtain ⟨_, _, vs, _, ob, es, ep, e1, _, d, _⟩ := x; rw [e] at e1; cases e1; rw [d] at z; cases z
  | set S n => obtain ⟨ob, es, ep, t, e1, _, d, _⟩ := x; rw [e] at e1; cases e1; rw [d] at z; cases z
  | _ => exact l
theorem loose_there {P : Program} {w : World} {h : Heap} {a : Addr} {u : HO} (x : ObjOk P w H h a u) (l : Loose u) : ∃ o, h.get? a = some o := by
  cases u with
  | lst xs => obtain ⟨_, its, n, _, e1⟩ := x; exact ⟨_, e1⟩
  | dK kvs => obtain ⟨_, _, vs, _, ob, es, ep, e1, _⟩ := x; exact ⟨_, e1⟩
  | dT kvs => obtain ⟨_, _, vs, _, ob, es, ep, e1, _⟩ := x; exact ⟨_, e1⟩
  | set S n => obtain ⟨ob, es, ep, t, e1, _⟩ := x; exact ⟨_, e1⟩
  | _ => exact l.elim
theorem forget (I : Inv X pins σ H s) (S : Sub G H) : Inv X (pins ++ lpins H G s.heap) σ G s where
  ok := I.ok
  os := I.os
  bare := I.bare
  base := ⟨I.base.keep, I.base.slot, fun b o e n hx => S.none (I.base.free b o e n hx), I.base.there,
    fun b xs q => S.keep (I.base.tups b xs q) (fun z => z), fun b o u q => S.keep (I.base.frzs b o u q) (fun z => z),
    fun b ps q => by obtain ⟨m, e⟩ := I.base.tbls b ps q; exact ⟨m, S.keep e (fun z => z)⟩⟩
  loc := I.loc
  cell := I.cell
  free := S.none I.free
  freeC := fun x c e => S.none (I.freeC x c e)
  pin := fun p hp => by
    rcases List.mem_append.mp hp with hp | hp
    · obtain ⟨e, n, r⟩ := I.pin p (List.mem_append_left _ hp)
      exact ⟨e, S.none n, r⟩
    · rcases List.mem_append.mp hp with hp | hp
      · obtain ⟨e, n, r⟩ := I.pin p (List.mem_append_right _ hp)
        exact ⟨e, S.none n, r⟩
      · obtain ⟨⟨u, hu⟩, hg, he⟩ := of_lpins hp
        refine ⟨he, hg, fun z => ?_, fun z => ?_, loose_cell (I.hok p.1 u hu) (S.loose _ _ hu hg) he⟩
        · rw [z, I.free] at hu; cases hu
        · rw [fs_none I z] at hu; cases hu
  hok := fun a o e => (I.hok a o (S.same a o e)).stay (fun b u _ q => q) (fun b q => S.keep q (fun z => z)) (fun b xs q => S.keep q (fun z => z))
  len := I.len
theorem lost_of {τ : L2.St} (I : Inv X pins σ H s) (S : Sub G H) (J : Inv X (pins ++ lpins H G s.heap) τ G' s') : ∀ b o, H b = some o → G b = none → G' b = none := fun b o hb hg => by
  obtain ⟨ob, hob⟩ : ∃ ob, s.heap.get? b = some ob := loose_there (I.hok b o hb) (S.loose b o hb hg)
  exact (J.pin (b, ob) (List.mem_append_right _ (List.mem_append_right _ (mem_lpins hb hg hob)))).2.1
theorem remember {τ : L2.St} (I : Inv X pins σ H s) (S : Sub G H) (J : Inv X (pins ++ lpins H G s.heap) τ G' s') (ht : ∀ b xs, G b = some (.tup xs) → G' b = some (.tup xs)) :
    Inv X pins τ (mixH G H G') s' := by
  have lost : ∀ b o, H b = some o → G b = none → G' b = none ∧ ∀ ob, s.heap.get? b = some ob → s'.heap.get? b = some ob := fun b o hb hg => by
    obtain ⟨ob, hob⟩ : ∃ ob, s.heap.get? b = some ob := loose_there (I.hok b o hb) (S.loose b o hb hg)
    obtain ⟨e1, e2, _⟩ := J.pin (b, ob) (List.mem_append_right _ (List.mem_append_right _ (mem_lpins hb hg hob)))
    exact ⟨e2, fun ob' h' => by rw [hob] at h'; cases h'; exact e1⟩
  have up : ∀ b o, G' b = some o → mixH G H G' b = some o := fun b o e => by
    cases q : G b with
    | some u => rw [mix_held q]; exact e
    | none =>
      cases r : H b with
      | none => rw [mix_free r]; exact e
      | some u => rw [(lost b u r q).1] at e; cases e
  have nn : ∀ b, G' b = none → H b = none → mixH G H G' b = none := fun b e r => by rw [mix_free r]; exact e
  refine ⟨J.ok, J.os, J.bare, ⟨J.base.keep, J.base.slot, fun b o e n hx => nn b (J.base.free b o e n hx) (I.base.free b o e n hx), J.base.there,
    fun b xs q => up _ _ (J.base.tups b xs q), fun b o u q => up _ _ (J.base.frzs b o u q), fun b ps q => ?_⟩, J.loc, J.cell, nn _ J.free I.free, fun x c e => nn _ (J.freeC x c e) (I.freeC x c e), fun p hp => ?_, fun a o e => ?_, J.len⟩
  · obtain ⟨m, e⟩ := J.base.tbls b ps q
    exact ⟨m, up _ _ e⟩
  · have hp' : p ∈ X.pn ++ (pins ++ lpins H G s.heap) := (List.mem_append.mp hp).elim (fun z => List.mem_append_left _ z) fun z => List.mem_append_right _ (List.mem_append_left _ z)
    obtain ⟨e, n, r⟩ := J.pin p hp'
    exact ⟨e, nn _ n (I.pin p hp).2.1, r⟩
  · cases q : G a with
    | some u =>
      rw [mix_held q] at e
      exact (J.hok a o e).stay (fun b u _ q => q) (fun b q => up _ _ q) (fun b xs q => up _ _ q)
    | none =>
      cases r : H a with
      | none =>
        rw [mix_free r] at e
        exact (J.hok a o e).stay (fun b u _ q => q) (fun b q => up _ _ q) (fun b xs q => up _ _ q)
      | some u =>
        rw [mix_lost q r] at e
        cases e
        have k := (lost a o r q).2
        have x := I.hok a o r
        have l := S.loose a o r q
        cases o with
        | lst xs => obtain ⟨z, its, n, rv, e1⟩ := x; exact ⟨z, its, n, rv, k _ e1⟩
        | dK kvs => obtain ⟨z, y, vs, rv, ob, es, ep, e1, c⟩ := x; exact ⟨z, y, vs, rv, ob, es, ep, k _ e1, c⟩
        | dT kvs =>
          obtain ⟨z, y, xs, rv, ob, es, ep, e1, c⟩ := x
          exact ⟨z, y, xs, Paired.mapP rv fun p q z => ⟨z.1, up _ _ (ht _ _ (S.keep z.2.1 (fun z => z))), z.2.2⟩, ob, es, ep, k _ e1, c⟩
        | set T n => obtain ⟨ob, es, ep, t, e1, c⟩ := x; exact ⟨ob, es, ep, t, k _ e1, c⟩
        | _ => exact l.elim
end

section
variable {X : Cx} {CX : CXT} {k : Nat} {f C : Addr} {fd : FuncData} {ps : List Str} {sp : Sp} {dvs : List V} {ds : List Value} {E : XK} {x m : Str} {p pos apos : Pos} {e o : Expr} {es : List Expr} {ta : TE} {t : TA}
theorem run_fnF {pins : List (Addr × Obj)} {σ : L2.St} {H G : Hp} {s : Shared} {Q : VK} {us : List Value} {vs : List V} (F : FnOk X.prog X.w X.K X.mg X.base CX k f fd ps sp) (hr : Room k X.A) (hb : Binds X.K fd ps ds) (hd : Vals dvs ds) (hx : Passes CX X E)
    (I : Inv X pins σ H s) (r : Vals vs us) (S : Sub G H) (h : sp (vs ++ dvs) G (fun v G' => (∀ b xs, G b = some (.tup xs) → G' b = some (.tup xs)) ∧ ((∀ b o, H b = some o → G b = none → G' b = none) → Q v (mixH G H G'))) E) :
    wpAny (model X.prog X.w) X.A (call (.ref f) us) (EP X pins σ Q) X.xe s := by
  refine thn (run_fn F hr hb hd hx (forget I S) r h) fun u s' ⟨v, G', I', rv, ht, q⟩ => ⟨v, mixH G H G', remember I S I' ht, rv, q (lost_of I S I')⟩
/-- f(..) called over a part of the heap -/
def tCallF (sp : Sp) (dvs : List V) (E : XK) (t : TA) : TE := fun σ H Q => t σ H fun vs H1 => ∃ G, Sub G H1 ∧ sp (vs ++ dvs) G (fun v G' => (∀ b xs, G b = some (.tup xs) → G' b = some (.tup xs)) ∧ ((∀ b o, H1 b = some o → G b = none → G' b = none) → Q v (mixH G H1 G'))) E
theorem pe_callF (F : FnOk X.prog X.w X.K X.mg X.base CX k f fd ps sp) (hr : Room k X.A) (hg : Gl X x) (hm : X.mg x = some (.ref f)) (hk : PySem.W.keepIn X.K (.ref f) = true) (hb : Binds X.K fd ps ds) (hd : Vals dvs ds) (hx : Passes CX X E)
    (ha : PA X (e :: es) t) (hdb : (x == ("__debug__" : Str)) = false := by decide) (he : starEach (e :: es) X.env = (false, eval e X.env) :: starEach es X.env := by rfl) (hpl : (backTo pos (starEach es X.env)).any (·.1) = false := by rfl) :
    PE X (.Call (.Name x p) (e :: es) [] pos) (tCallF sp dvs E t) := by
  refine ⟨fun pins s σ H Q I h => ?_⟩
  refine wpAny_Call_Name_kw (ld_glob I hg hm ?_ hdb)
  refine PySem.W.callWith_K (h₀ := X.base) I.ok.mod.kin hk (thn (ha.run pos pins s σ H _ I h) fun us s1 ⟨vs, H1, I1, r, G, S, q⟩ => ⟨I1.kIn, ?_⟩) he hpl
  exact run_fnF F hr hb hd hx I1 r S q
end

/-! ### any expression, test, target, over a part of the heap -/
def Back (G H : Hp) (Q : Hp → Prop) : Hp → Prop := fun G' => (∀ b xs, G b = some (.tup xs) → G' b = some (.tup xs)) ∧ ((∀ b o, H b = some o → G b = none → G' b = none) → Q (mixH G H G'))
def tFr (t : TE) : TE := fun σ H Q => ∃ G, Sub G H ∧ t σ G fun v => Back G H (Q v)
def tFrT (t : TT) : TT := fun σ H Q => ∃ G, Sub G H ∧ t σ G fun v => Back G H (Q v)
def gFr (t : TG) : TG := fun x σ H Q => ∃ G, Sub G H ∧ t x σ G fun σ' => Back G H (Q σ')
section
variable {X : Cx} {e : Expr}
theorem pe_fr {t : TE} (h : PE X e t) : PE X e (tFr t) := ⟨fun pins s σ H Q I ⟨G, S, q⟩ =>
  thn (h.run _ s σ G _ (forget I S) q) fun u s' ⟨v, G', J, r, ht, q⟩ => ⟨v, _, remember I S J ht, r, q (lost_of I S J)⟩⟩
theorem pts_fr {es : List Expr} {t : TT} (h : PTs X es t) : PTs X es (tFrT t) := ⟨fun pins s σ H Q I ⟨G, S, q⟩ =>
  thn (h.run _ s σ G _ (forget I S) q) fun u s' ⟨G', J, ht, q⟩ => ⟨_, remember I S J ht, q (lost_of I S J)⟩⟩
theorem pg_fr {t : TG} (h : PG X e t) : PG X e (gFr t) := ⟨fun pins s σ H v u Q I r ⟨G, S, q⟩ =>
  thn (h.run _ s σ G v u _ (forget I S) r q) fun _ s' ⟨σ', G', J, ht, q⟩ => ⟨σ', _, remember I S J ht, q (lost_of I S J)⟩⟩
end

/-! ### growing heaps: all but the tables of code objects stay, and these are tables still -/
class TabsC where
  T : List (Addr × Str)
  C : List (Addr × Addr)
def NT : HO → Prop
  | .tbl _ => False
  | _ => True
theorem Loose.nt {o : HO} (h : Loose o) : NT o := by
  cases o <;> first | trivial | exact h
section
variable [τ : TabsC]
structure SameT (F F' : Hp) : Prop where
  old : ∀ b o, F b = some o → NT o → F' b = some o
  tab : LamX.Tabs τ.T F → LamX.Tabs τ.T F'
  stay : ∀ b o, F b = some o → ∃ o', F' b = some o'
theorem SameT.refl (F : Hp) : SameT F F := ⟨fun _ _ h _ => h, fun t => t, fun _ o h => ⟨o, h⟩⟩
theorem SameT.trans {F G H : Hp} (a : SameT F G) (b : SameT G H) : SameT F H := ⟨fun c o h n => b.old c o (a.old c o h n) n, fun t => b.tab (a.tab t), fun c o h => let ⟨o', h'⟩ := a.stay c o h; b.stay c o' h'⟩
theorem _root_.L2.Same.t {F F' : Hp} (h : Same F F') : SameT F F' := ⟨fun b o e _ => h b o e, fun t => t.ext h, fun b o e => ⟨o, h b o e⟩⟩
theorem SameT.empty (B : Hp) : SameT (fun _ => none) B := ⟨(fun _ _ q => nomatch q), (fun t p hp => by
  obtain ⟨ps, h, _⟩ := t p hp
  cases h), (fun _ _ q => nomatch q)⟩
theorem SameT.seq {K : PySem.W.Frag} {F F' : Hp} {a : Addr} {xs : List V} (e : SameT F F') (h : SqL K F a xs) : SqL K F' a xs := by
  rcases h with (h | ⟨o, h⟩) | h
  · exact .inl (.inl (e.old _ _ h trivial))
  · exact .inl (.inr ⟨o, e.old _ _ h trivial⟩)
  · exact .inr h
end
end Fu

set_option maxHeartbeats 4000000
namespace Fu
open PySem PySem.Spec PyProof.Rows L2
variable [TabsC]

abbrev D := PyData

/-- a dict stands at a: what it holds is not told -/
def dictO (a : Addr) : HO := .ext (PySem.W.KitAt a "dict")
/-- a dict whose keys are tuples of ints, its values, too, as data -/
def tDict (kvs : List (List Int × List Int)) : PyData := .dict ((.str "T", .none) :: kvs.map fun p => (.tuple (p.1.map .int), .tuple (p.2.map .int)))
def RowT (H : Hp) (p : List Key × V) (q : List Int × List Int) : Prop := p.1 = q.1.map Sum.inl ∧ q.2.length ≤ sizeLine ∧ ∃ b, p.2 = .ref b ∧ H b = some (.tup (q.2.map V.int))
/-! ### a value, down to what is within, in a heap that stays -/
mutual
inductive Rp (K : PySem.W.Frag) (H : Hp) : V → PyData → Prop
  | non : Rp K H .non .none
  | bl (b : Bool) : Rp K H (.bl b) (.bool b)
  | int (i : Int) : Rp K H (.int i) (.int i)
  | str {x : Str} : x.length ≤ sizeLine → Rp K H (.str x) (.str x)
  | lst {a : Addr} {xs : List V} {ds : List PyData} : H a = some (.lst xs) → Rps K H xs ds → ds.length ≤ sizeLine → Rp K H (.ref a) (.list ds)
  | tup {a : Addr} {xs : List V} {ds : List PyData} : H a = some (.tup xs) → Rps K H xs ds → ds.length ≤ sizeLine → Rp K H (.ref a) (.tuple ds)
  | dct {a : Addr} {kvs : List (PyData × PyData)} : ((∃ es, H a = some (.dK es)) ∨ (∃ es, H a = some (.dT es)) ∨ H a = some (dictO a)) → (kvs = [] → H a = some (.dK [])) → (kvs = [] ∨ kvs = [(.none, .none)]) → Rp K H (.ref a) (.dict kvs)
  | dcT {a : Addr} {vs : List (List Key × V)} {kvs : List (List Int × List Int)} : H a = some (.dT vs) → Paired (RowT H) vs kvs → Rp K H (.ref a) (tDict kvs)
inductive Rps (K : PySem.W.Frag) (H : Hp) : List V → List PyData → Prop
  | nil : Rps K H [] []
  | cons {v : V} {vs : List V} {d : PyData} {ds : List PyData} : Rp K H v d → Rps K H vs ds → Rps K H (v :: vs) (d :: ds)
end
section
variable {K : PySem.W.Frag} {H H' : Hp}
theorem sqT_same {a : Addr} {xs : List V} (e : SameT H H') (h : SqT K H a xs) : SqT K H' a xs := by
  rcases h with (h | ⟨o, h⟩) | h
  · exact .inl (.inl (e.old _ _ h trivial))
  · exact .inl (.inr ⟨o, e.old _ _ h trivial⟩)
  · exact .inr h
theorem dcT_mono (e : SameT H H') : ∀ {vs : List (List Key × V)} {kvs : List (List Int × List Int)}, Paired (RowT H) vs kvs → Paired (RowT H') vs kvs
  | _, _, .nil => .nil
  | _, _, .cons ⟨h1, h0, b, h2, h3⟩ t => .cons ⟨h1, h0, b, h2, e.old _ _ h3 trivial⟩ (dcT_mono e t)
mutual
theorem Rp.mono (e : SameT H H') : ∀ (d : PyData) (v : V), Rp K H v d → Rp K H' v d
  | .none, _, h => by cases h; exact .non
  | .bool b, _, h => by cases h; exact .bl b
  | .int i, _, h => by cases h; exact .int i
  | .str x, _, h => by
    cases h with
    | str hz => exact .str hz
  | .list ds, _, h => by
    cases h with
    | lst hs ha hz => exact .lst (e.old _ _ hs trivial) (Rps.mono e ds _ ha) hz
  | .tuple ds, _, h => by
    cases h with
    | tup hs ha hz => exact .tup (e.old _ _ hs trivial) (Rps.mono e ds _ ha) hz
  | .dict kvs, _, h => by
    cases h with
    | dcT h1 h2 => exact .dcT (e.old _ _ h1 trivial) (dcT_mono e h2)
    | dct hd h0 h00 =>
      refine .dct ?_ (fun z => e.old _ _ (h0 z) trivial) h00
      rcases hd with ⟨es, hd⟩ | ⟨es, hd⟩ | hd
      · exact .inl ⟨es, e.old _ _ hd trivial⟩
      · exact .inr (.inl ⟨es, e.old _ _ hd trivial⟩)
      · exact .inr (.inr (e.old _ _ hd trivial))
theorem Rps.mono (e : SameT H H') : ∀ (ds : List PyData) (vs : List V), Rps K H vs ds → Rps K H' vs ds
  | [], _, h => by cases h; exact .nil
  | d :: ds, _, h => by
    cases h with
    | cons h1 h2 => exact .cons (Rp.mono e d _ h1) (Rps.mono e ds _ h2)
end
mutual
theorem Rp.dp : ∀ (d : PyData) (v : V), d.canLay0 = true → Rp K H v d → Dp K H v d
  | .none, _, _, h => by cases h; exact .non
  | .bool b, _, _, h => by cases h; exact .bl b
  | .int i, _, _, h => by cases h; exact .int i
  | .str x, _, _, h => by cases h; exact .str x
  | .list ds, _, c, h => by
    cases h with
    | lst hs ha hz => exact .lst (SqL.of hs) (Rps.dp ds _ (by simpa [PyData.canLay0] using c) ha)
  | .tuple ds, _, c, h => by
    cases h with
    | tup hs ha hz => exact .tup (.inl (.inl hs)) (Rps.dp ds _ (by simpa [PyData.canLay0] using c) ha)
  | .dict kvs, _, c, _ => by simp [PyData.canLay0] at c
theorem Rps.dp : ∀ (ds : List PyData) (vs : List V), PyData.canLayAll0 ds = true → Rps K H vs ds → DpAll K H vs ds
  | [], _, _, h => by cases h; exact .nil
  | d :: ds, _, c, h => by
    have c' : d.canLay0 = true ∧ PyData.canLayAll0 ds = true := by simpa [PyData.canLayAll0] using c
    cases h with
    | cons h1 h2 => exact .cons (Rp.dp d _ c'.1 h1) (Rps.dp ds _ c'.2 h2)
end
theorem Rps.length : ∀ {ds : List PyData} {vs : List V}, Rps K H vs ds → vs.length = ds.length
  | [], _, h => by cases h; rfl
  | d :: ds, _, h => by
    cases h with
    | cons _ h2 => rw [List.length_cons, List.length_cons, Rps.length h2]
theorem Rps.get : ∀ {ds : List PyData} {vs : List V} {i : Nat} {d : PyData}, Rps K H vs ds → ds[i]? = some d → ∃ v, vs[i]? = some v ∧ Rp K H v d
  | [], _, _, _, _, e => by simp at e
  | _ :: _, _, 0, _, h, e => by
    cases h with
    | cons h1 h2 =>
      simp at e; subst e
      exact ⟨_, rfl, h1⟩
  | _ :: ds, _, i + 1, _, h, e => by
    cases h with
    | cons h1 h2 =>
      obtain ⟨v, e1, r⟩ := Rps.get (i := i) h2 (by simpa using e)
      exact ⟨v, by simpa using e1, r⟩
theorem Rps.append : ∀ {ds es : List PyData} {vs us : List V}, Rps K H vs ds → Rps K H us es → Rps K H (vs ++ us) (ds ++ es)
  | [], _, _, _, h, g => by cases h; exact g
  | _ :: _, _, _, _, h, g => by
    cases h with
    | cons h1 h2 => exact .cons h1 (h2.append g)
theorem Rps.take : ∀ {ds : List PyData} {vs : List V} (n : Nat), Rps K H vs ds → Rps K H (vs.take n) (ds.take n)
  | _, _, 0, _ => .nil
  | [], _, n + 1, h => by cases h; exact .nil
  | _ :: _, _, n + 1, h => by
    cases h with
    | cons h1 h2 => exact .cons h1 (h2.take n)
theorem Rps.drop : ∀ {ds : List PyData} {vs : List V} (n : Nat), Rps K H vs ds → Rps K H (vs.drop n) (ds.drop n)
  | _, _, 0, h => h
  | [], _, n + 1, h => by cases h; exact .nil
  | _ :: _, _, n + 1, h => by
    cases h with
    | cons h1 h2 => exact h2.drop n
theorem Rps.set : ∀ {ds : List PyData} {vs : List V} {v : V} {d : PyData} (i : Nat), Rp K H v d → Rps K H vs ds → Rps K H (vs.set i v) (ds.set i d)
  | [], _, _, _, _, _, h => by cases h; exact .nil
  | _ :: _, _, _, _, 0, r, h => by
    cases h with
    | cons h1 h2 => exact .cons r h2
  | _ :: _, _, _, _, i + 1, r, h => by
    cases h with
    | cons h1 h2 => exact .cons h1 (Rps.set i r h2)
theorem Rps.erase : ∀ {ds : List PyData} {vs : List V} (i : Nat), Rps K H vs ds → Rps K H (vs.eraseIdx i) (ds.eraseIdx i)
  | [], _, _, h => by cases h; exact .nil
  | _ :: _, _, 0, h => by
    cases h with
    | cons h1 h2 => exact h2
  | _ :: _, _, i + 1, h => by
    cases h with
    | cons h1 h2 => exact .cons h1 (Rps.erase i h2)
theorem Rps.reverse {ds : List PyData} {vs : List V} (h : Rps K H vs ds) : Rps K H vs.reverse ds.reverse := by
  induction ds generalizing vs with
  | nil => cases h; exact .nil
  | cons d ds ih =>
    cases h with
    | cons h1 h2 =>
      rw [List.reverse_cons, List.reverse_cons]
      exact (ih h2).append (.cons h1 .nil)
theorem Rps.rep {ds : List PyData} {vs : List V} (h : Rps K H vs ds) : ∀ n : Nat, Rps K H (List.replicate n vs).flatten (List.replicate n ds).flatten
  | 0 => .nil
  | n + 1 => by
    rw [List.replicate_succ, List.replicate_succ, List.flatten_cons, List.flatten_cons]
    exact h.append (h.rep n)
theorem Rps.ints : ∀ ns : List Int, Rps K H (ns.map V.int) (ns.map PyData.int)
  | [] => .nil
  | n :: ns => .cons (.int n) (Rps.ints ns)
end

/-! ### the state: slots, and things that are still written (cells) -/
/-- an exception object of the class cls stands at a -/
def XO (cls : Value) (a : Addr) : HO := .ext fun h => ∃ (o : Obj) (fs : Array Value), h.get? a = some o ∧ Zc cls none o ∧ o.data = .fields fs
inductive R where
  | dat (d : PyData)
  | own (j : Nat)
  | scr (ns : List Int)
  | tup (rs : List R)
  | exc (c : Str)
inductive Cell where
  | lst (xs : List PyData)
  | lR (xs : List R)
  | dR (kvs : List (Key × R))
  | tR (kvs : List (List Key × R))
structure Sx where
  sl : List (Option R)
  os : List (Option Cell)
abbrev M (α : Type) := Sx → Option (α × Sx)

mutual
/-- a value of the state: data, a cell's place, the script, a tuple of such -/
inductive Rr (K : PySem.W.Frag) (A : List Addr) (F : Hp) : V → R → Prop
  | dat {v : V} {d : PyData} : Rp K F v d → Rr K A F v (.dat d)
  | own {j : Nat} {a : Addr} : A[j]? = some a → Rr K A F (.ref a) (.own j)
  | scr {a : Addr} {ns : List Int} : ns.length ≤ 63 → SqL K F a (ns.map V.int) → Rr K A F (.ref a) (.scr ns)
  | tup {a : Addr} {vs : List V} {rs : List R} : F a = some (.tup vs) → Rrs K A F vs rs → rs.length ≤ sizeLine → Rr K A F (.ref a) (.tup rs)
  | exc {a D : Addr} {c : Str} : PySem.W.nsIn K mainGlobals c = some (some (.ref D)) → F a = some (XO (.ref D) a) → Rr K A F (.ref a) (.exc c)
inductive Rrs (K : PySem.W.Frag) (A : List Addr) (F : Hp) : List V → List R → Prop
  | nil : Rrs K A F [] []
  | cons {v : V} {vs : List V} {r : R} {rs : List R} : Rr K A F v r → Rrs K A F vs rs → Rrs K A F (v :: vs) (r :: rs)
end
theorem pre_at {α : Type} {A B : List α} {j : Nat} {a : α} (p : A <+: B) (h : A[j]? = some a) : B[j]? = some a := by
  obtain ⟨C, rfl⟩ := p
  rw [List.getElem?_append_left (List.getElem?_eq_some_iff.mp h).1]; exact h
section
variable {K : PySem.W.Frag} {A A' : List Addr} {F F' : Hp}
mutual
theorem Rr.mono (p : A <+: A') (e : SameT F F') : ∀ (r : R) (v : V), Rr K A F v r → Rr K A' F' v r
  | .dat d, _, h => by
    cases h with
    | dat h => exact .dat (Rp.mono e d _ h)
  | .own j, _, h => by
    cases h with
    | own h => exact .own (pre_at p h)
  | .scr ns, _, h => by
    cases h with
    | scr z h => exact .scr z (e.seq h)
  | .tup rs, _, h => by
    cases h with
    | tup s h z => exact .tup (e.old _ _ s trivial) (Rrs.mono p e rs _ h) z
  | .exc c, _, h => by
    cases h with
    | exc h1 h2 => exact .exc h1 (e.old _ _ h2 trivial)
theorem Rrs.mono (p : A <+: A') (e : SameT F F') : ∀ (rs : List R) (vs : List V), Rrs K A F vs rs → Rrs K A' F' vs rs
  | [], _, h => by cases h; exact .nil
  | r :: rs, _, h => by
    cases h with
    | cons h1 h2 => exact .cons (Rr.mono p e r _ h1) (Rrs.mono p e rs _ h2)
end
theorem Rrs.length : ∀ {rs : List R} {vs : List V}, Rrs K A F vs rs → vs.length = rs.length
  | [], _, h => by cases h; rfl
  | _ :: rs, _, h => by
    cases h with
    | cons _ h2 => rw [List.length_cons, List.length_cons, Rrs.length h2]
theorem Rrs.get : ∀ {rs : List R} {vs : List V} {i : Nat} {r : R}, Rrs K A F vs rs → rs[i]? = some r → ∃ v, vs[i]? = some v ∧ Rr K A F v r
  | [], _, _, _, _, e => by simp at e
  | _ :: _, _, 0, _, h, e => by
    cases h with
    | cons h1 h2 =>
      simp at e; subst e
      exact ⟨_, rfl, h1⟩
  | _ :: rs, _, i + 1, _, h, e => by
    cases h with
    | cons h1 h2 =>
      obtain ⟨v, e1, r⟩ := Rrs.get (i := i) h2 (by simpa using e)
      exact ⟨v, by simpa using e1, r⟩
theorem Rrs.append : ∀ {rs ss : List R} {vs us : List V}, Rrs K A F vs rs → Rrs K A F us ss → Rrs K A F (vs ++ us) (rs ++ ss)
  | [], _, _, _, h, g => by cases h; exact g
  | _ :: _, _, _, _, h, g => by
    cases h with
    | cons h1 h2 => exact .cons h1 (h2.append g)
theorem Rrs.take : ∀ {rs : List R} {vs : List V} (n : Nat), Rrs K A F vs rs → Rrs K A F (vs.take n) (rs.take n)
  | _, _, 0, _ => .nil
  | [], _, n + 1, h => by cases h; exact .nil
  | _ :: _, _, n + 1, h => by
    cases h with
    | cons h1 h2 => exact .cons h1 (h2.take n)
theorem Rrs.drop : ∀ {rs : List R} {vs : List V} (n : Nat), Rrs K A F vs rs → Rrs K A F (vs.drop n) (rs.drop n)
  | _, _, 0, h => h
  | [], _, n + 1, h => by cases h; exact .nil
  | _ :: _, _, n + 1, h => by
    cases h with
    | cons h1 h2 => exact h2.drop n
theorem Rrs.set : ∀ {rs : List R} {vs : List V} {v : V} {r : R} (i : Nat), Rr K A F v r → Rrs K A F vs rs → Rrs K A F (vs.set i v) (rs.set i r)
  | [], _, _, _, _, _, h => by cases h; exact .nil
  | _ :: _, _, _, _, 0, r, h => by
    cases h with
    | cons h1 h2 => exact .cons r h2
  | _ :: _, _, _, _, i + 1, r, h => by
    cases h with
    | cons h1 h2 => exact .cons h1 (Rrs.set i r h2)
theorem Rrs.erase : ∀ {rs : List R} {vs : List V} (i : Nat), Rrs K A F vs rs → Rrs K A F (vs.eraseIdx i) (rs.eraseIdx i)
  | [], _, _, h => by cases h; exact .nil
  | _ :: _, _, 0, h => by
    cases h with
    | cons h1 h2 => exact h2
  | _ :: _, _, i + 1, h => by
    cases h with
    | cons h1 h2 => exact .cons h1 (Rrs.erase i h2)
end

abbrev PairR (K : PySem.W.Frag) (A : List Addr) (F : Hp) {κ : Type} (vs : List (κ × V)) (ks : List (κ × R)) : Prop := Paired (fun p q => p.1 = q.1 ∧ Rr K A F p.2 q.2) vs ks
def CellOk (K : PySem.W.Frag) (A : List Addr) (F H : Hp) (a : Addr) : Cell → Prop
  | .lst ds => ∃ vs, H a = some (.lst vs) ∧ Rps K F vs ds ∧ ds.length ≤ sizeLine
  | .lR rs => ∃ vs, H a = some (.lst vs) ∧ Rrs K A F vs rs ∧ rs.length ≤ sizeLine
  | .dR kvs => ∃ vs : List (Key × V), H a = some (.dK vs) ∧ PairR K A F vs kvs
  | .tR kvs => ∃ vs : List (List Key × V), H a = some (.dT vs) ∧ PairR K A F vs kvs
structure Ok (K : PySem.W.Frag) (A : List Addr) (F H : Hp) (S : Sx) (σ : L2.St) : Prop where
  sub : Sub F H
  len : S.sl.length = σ.length
  alen : S.os.length = A.length
  nd : A.Nodup
  rslot : ∀ (i : Nat) r, S.sl[i]? = some (some r) → ∃ v, σ[i]? = some (some v) ∧ Rr K A F v r
  cell : ∀ (j : Nat) c, S.os[j]? = some (some c) → ∃ a, A[j]? = some a ∧ F a = none ∧ CellOk K A F H a c
  trk : ∀ a ∈ A, ∃ o, H a = some o ∧ Loose o
  tab : LamX.Tabs TabsC.T F
section
variable {K : PySem.W.Frag} {A : List Addr} {F H : Hp} {S : Sx} {σ : L2.St}
theorem Ok.slot (k : Ok K A F H S σ) (i : Nat) (d : PyData) (h : S.sl[i]? = some (some (.dat d))) : ∃ v, σ[i]? = some (some v) ∧ Rp K F v d := by
  obtain ⟨v, e, r⟩ := k.rslot i _ h
  cases r with
  | dat r => exact ⟨v, e, r⟩
theorem Ok.oslot (k : Ok K A F H S σ) (i j : Nat) (h : S.sl[i]? = some (some (.own j))) : ∃ a, A[j]? = some a ∧ σ[i]? = some (some (.ref a)) := by
  obtain ⟨v, e, r⟩ := k.rslot i _ h
  cases r with
  | own r => exact ⟨_, r, e⟩
theorem Ok.sslot (k : Ok K A F H S σ) (i : Nat) (ns : List Int) (h : S.sl[i]? = some (some (.scr ns))) : ns.length ≤ 63 ∧ ∃ a, σ[i]? = some (some (.ref a)) ∧ SqL K F a (ns.map V.int) := by
  obtain ⟨v, e, r⟩ := k.rslot i _ h
  cases r with
  | scr z r => exact ⟨z, _, e, r⟩
end

theorem paired_mono {κ : Type} {K : PySem.W.Frag} {A A' : List Addr} {F F' : Hp} (p : A <+: A') (e : SameT F F') {vs : List (κ × V)} {ks : List (κ × R)} (h : PairR K A F vs ks) : PairR K A' F' vs ks :=
  Paired.mapP h fun _ _ z => ⟨z.1, z.2.mono p e _ _⟩
/-- the cell at a stands over a greater heap -/
theorem CellOk.mono {K : PySem.W.Frag} {A A' : List Addr} {F F' H H' : Hp} {a : Addr} {c : Cell} (p : A <+: A') (e : SameT F F') (ha : ∀ o, H a = some o → H' a = some o) (h : CellOk K A F H a c) : CellOk K A' F' H' a c := by
  cases c with
  | lst ds => obtain ⟨vs, h1, h2, hz⟩ := h; exact ⟨vs, ha _ h1, Rps.mono e _ _ h2, hz⟩
  | lR ds => obtain ⟨vs, h1, h2, hz⟩ := h; exact ⟨vs, ha _ h1, Rrs.mono p e _ _ h2, hz⟩
  | dR ds => obtain ⟨vs, h1, h2⟩ := h; exact ⟨vs, ha _ h1, paired_mono p e h2⟩
  | tR ds => obtain ⟨vs, h1, h2⟩ := h; exact ⟨vs, ha _ h1, paired_mono p e h2⟩

theorem same_upd {H : Hp} {p : Addr} {o : HO} (h : H p = none) : SameT H (upd H p o) := L2.Same.t fun b x e => by
  rw [upd_ne (ne_of_none e h)]
  exact e
section
variable {K : PySem.W.Frag} {A : List Addr} {F F' H H' : Hp} {S : Sx} {σ : L2.St}
/-- both heaps grow -/
theorem Ok.grow (k : Ok K A F H S σ) (sub : Sub F' H') (e : SameT F F') (eh : ∀ a ∈ A, ∀ o, H a = some o → H' a = some o) (hf : ∀ a ∈ A, F a = none → F' a = none) : Ok K A F' H' S σ where
  sub := sub
  len := k.len
  alen := k.alen
  nd := k.nd
  rslot := fun i r h => by obtain ⟨v, e1, q⟩ := k.rslot i r h; exact ⟨v, e1, q.mono (List.prefix_refl _) e _ _⟩
  cell := fun j c h => by
    obtain ⟨a, e1, f, c⟩ := k.cell j c h
    have hm : a ∈ A := List.mem_of_getElem? e1
    exact ⟨a, e1, hf a hm f, c.mono (List.prefix_refl _) e (eh a hm)⟩
  trk := fun a h => by obtain ⟨o, q, l⟩ := k.trk a h; exact ⟨o, eh a h o q, l⟩
  tab := e.tab k.tab
/-- a new object, known for good -/
theorem Ok.laid (k : Ok K A F H S σ) {p : Addr} {o : HO} (hp : H p = none) : Ok K A (upd F p o) (upd H p o) S σ := by
  have fp : F p = none := k.sub.none hp
  refine k.grow ⟨fun b u q => ?_, fun b u q n => ?_⟩ (same_upd fp) (fun a ha u q => by rw [upd_ne (ne_of_none q hp)]; exact q) fun a ha q => ?_
  · by_cases hb : b = p
    · subst hb; rw [upd_same] at q ⊢; exact q
    · rw [upd_ne hb] at q ⊢; exact k.sub.same b u q
  · by_cases hb : b = p
    · subst hb; rw [upd_same] at n; cases n
    · rw [upd_ne hb] at q n; exact k.sub.loose b u q n
  · obtain ⟨u, hu, _⟩ := k.trk a ha
    rw [upd_ne (ne_of_none hu hp)]; exact q
theorem sub_cell {G H : Hp} (s : Sub G H) {a : Addr} {o : HO} (g : G a = none) (l : Loose o) : Sub G (upd H a o) := ⟨fun b u q => by
    rw [upd_ne (ne_of_none q g)]; exact s.same b u q, fun b u q n => by
    by_cases hb : b = a
    · subst hb; rw [upd_same] at q; cases q; exact l
    · rw [upd_ne hb] at q; exact s.loose b u q n⟩
/-- a new cell -/
theorem Ok.cellNew (k : Ok K A F H S σ) {p : Addr} {o : HO} {c : Cell} (hp : H p = none) (l : Loose o) (hc : CellOk K (A ++ [p]) F (upd H p o) p c) : Ok K (A ++ [p]) F (upd H p o) { S with os := S.os ++ [some c] } σ := by
  have fp : F p = none := k.sub.none hp
  have np : p ∉ A := fun z => by obtain ⟨u, hu, _⟩ := k.trk p z; rw [hp] at hu; cases hu
  have pp : A <+: A ++ [p] := List.prefix_append _ _
  refine ⟨sub_cell k.sub fp l, k.len, by simp [k.alen], List.nodup_append.mpr ⟨k.nd, by simp, fun a ha b hb => by simp at hb; subst hb; intro z; subst z; exact np ha⟩, fun i r h => ?_, fun j c' h => ?_, fun a h => ?_, k.tab⟩
  · obtain ⟨v, e1, q⟩ := k.rslot i r h
    exact ⟨v, e1, q.mono pp (SameT.refl F) _ _⟩
  · by_cases hj : j < S.os.length
    · have h' : S.os[j]? = some (some c') := by
        have := h
        simp only at this
        rw [List.getElem?_append_left hj] at this; exact this
      obtain ⟨a, e1, f, q⟩ := k.cell j c' h'
      exact ⟨a, pre_at pp e1, f, q.mono pp (SameT.refl F) fun u hu => by rw [upd_ne (ne_of_none hu hp)]; exact hu⟩
    · have e : j = S.os.length := by
        have := (List.getElem?_eq_some_iff.mp h).1
        simp at this
        omega
      subst e
      have h' : some c = some c' := by simpa using h
      cases h'
      exact ⟨p, by rw [k.alen]; simp, fp, hc⟩
  · rcases List.mem_append.mp h with h | h
    · obtain ⟨u, hu, lu⟩ := k.trk a h
      exact ⟨u, by rw [upd_ne (ne_of_none hu hp)]; exact hu, lu⟩
    · simp at h; subst h; exact ⟨o, upd_same, l⟩
theorem idx_nodup {α : Type} {A : List α} (nd : A.Nodup) {i j : Nat} {a : α} (h1 : A[i]? = some a) (h2 : A[j]? = some a) : i = j := by
  obtain ⟨l1, e1⟩ := List.getElem?_eq_some_iff.mp h1
  obtain ⟨l2, e2⟩ := List.getElem?_eq_some_iff.mp h2
  exact (List.getElem_inj nd).mp (e1.trans e2.symm)
/-- a cell written -/
theorem Ok.cellSet (k : Ok K A F H S σ) {j : Nat} {a : Addr} {o : HO} {c c' : Cell} (hj : S.os[j]? = some (some c)) (ha : A[j]? = some a) (l : Loose o) (hc : CellOk K A F (upd H a o) a c') :
    Ok K A F (upd H a o) { S with os := S.os.set j (some c') } σ := by
  obtain ⟨a', e1, fa, _⟩ := k.cell j c hj
  rw [ha] at e1; cases e1
  refine ⟨sub_cell k.sub fa l, k.len, by simp [k.alen], k.nd, k.rslot, fun i d h => ?_, fun b h => ?_, k.tab⟩
  · by_cases hi : j = i
    · subst hi
      have hlt := (List.getElem?_eq_some_iff.mp hj).1
      rw [List.getElem?_set_self hlt] at h
      cases h
      exact ⟨a, ha, fa, hc⟩
    · rw [List.getElem?_set_ne hi] at h
      obtain ⟨b, e1, f, q⟩ := k.cell i d h
      have hb : b ≠ a := fun z => hi (idx_nodup k.nd ha (z ▸ e1))
      exact ⟨b, e1, f, q.mono (List.prefix_refl _) (SameT.refl F) fun u hu => by rw [upd_ne hb]; exact hu⟩
  · by_cases hb : b = a
    · exact ⟨o, by rw [hb, upd_same], l⟩
    · obtain ⟨u, hu, lu⟩ := k.trk b h
      exact ⟨u, by rw [upd_ne hb]; exact hu, lu⟩
/-- a cell is written no more: its object is known for good -/
theorem Ok.sealO (k : Ok K A F H S σ) {j : Nat} {a : Addr} {o : HO} {c : Cell} (hj : S.os[j]? = some (some c)) (ha : A[j]? = some a) (ho : H a = some o) :
    SameT F (upd F a o) ∧ Ok K A (upd F a o) H { S with os := S.os.set j none } σ := by
  obtain ⟨a', e1, fa, _⟩ := k.cell j c hj
  rw [ha] at e1; cases e1
  have sm : SameT F (upd F a o) := same_upd fa
  refine ⟨sm, ⟨⟨fun b u q => ?_, fun b u q n => ?_⟩, k.len, by simp [k.alen], k.nd, fun i r h => ?_, fun i d h => ?_, k.trk, sm.tab k.tab⟩⟩
  · by_cases hb : b = a
    · subst hb; rw [upd_same] at q; cases q; exact ho
    · rw [upd_ne hb] at q; exact k.sub.same b u q
  · by_cases hb : b = a
    · subst hb; rw [upd_same] at n; cases n
    · rw [upd_ne hb] at n; exact k.sub.loose b u q n
  · obtain ⟨v, e1, q⟩ := k.rslot i r h
    exact ⟨v, e1, q.mono (List.prefix_refl _) sm _ _⟩
  · by_cases hi : j = i
    · subst hi
      have hlt := (List.getElem?_eq_some_iff.mp hj).1
      rw [List.getElem?_set_self hlt] at h
      cases h
    · rw [List.getElem?_set_ne hi] at h
      obtain ⟨b, e1, f, q⟩ := k.cell i d h
      have hb : b ≠ a := fun z => hi (idx_nodup k.nd ha (z ▸ e1))
      exact ⟨b, e1, by rw [upd_ne hb]; exact f, q.mono (List.prefix_refl _) sm fun u hu => hu⟩
/-- .. a list of data -/
theorem Ok.seal (k : Ok K A F H S σ) {j : Nat} {ds : List PyData} (hj : S.os[j]? = some (some (.lst ds))) :
    ∃ a F', A[j]? = some a ∧ SameT F F' ∧ Rp K F' (.ref a) (.list ds) ∧ Ok K A F' H { S with os := S.os.set j none } σ ∧ ∀ b, b ≠ a → F' b = F b := by
  obtain ⟨a, ha, fa, vs, hv, r, hz⟩ := k.cell j _ hj
  obtain ⟨sm, k'⟩ := k.sealO hj ha hv
  exact ⟨a, _, ha, sm, .lst upd_same (Rps.mono sm _ _ r) hz, k', fun b hb => upd_ne hb⟩
theorem Ok.setR (k : Ok K A F H S σ) {i : Nat} {r : R} {v : V} (q : Rr K A F v r) : Ok K A F H { S with sl := S.sl.set i (some r) } (σ.set i (some v)) := by
  refine ⟨k.sub, by simp [k.len], k.alen, k.nd, fun n e h => ?_, k.cell, k.trk, k.tab⟩
  by_cases hi : i = n
  · subst hi
    have hlt : i < S.sl.length := by
      have := (List.getElem?_eq_some_iff.mp h).1
      simpa using this
    rw [List.getElem?_set_self hlt] at h
    cases h
    exact ⟨v, by rw [List.getElem?_set_self (by rw [← k.len]; exact hlt)], q⟩
  · rw [List.getElem?_set_ne hi] at h ⊢
    exact k.rslot n e h
theorem Ok.setDat (k : Ok K A F H S σ) {i : Nat} {d : PyData} {v : V} (r : Rp K F v d) : Ok K A F H { S with sl := S.sl.set i (some (.dat d)) } (σ.set i (some v)) := k.setR (.dat r)
theorem Ok.setOwn (k : Ok K A F H S σ) {i j : Nat} {a : Addr} (ha : A[j]? = some a) : Ok K A F H { S with sl := S.sl.set i (some (.own j)) } (σ.set i (some (.ref a))) := k.setR (.own ha)
theorem set_at {α : Type} {l : List (Option α)} {i : Nat} {v : α} (hv : l[i]? = some (some v)) : l.set i (some v) = l := by
  apply List.ext_getElem?
  intro n
  by_cases hi : i = n
  · subst hi
    rw [List.getElem?_set_self (List.getElem?_eq_some_iff.mp hv).1, hv]
  · rw [List.getElem?_set_ne hi]
/-- the slot's thing told otherwise, the value as it was -/
theorem Ok.rAt (k : Ok K A F H S σ) {i : Nat} {r : R} {v : V} (hv : σ[i]? = some (some v)) (q : Rr K A F v r) : Ok K A F H { S with sl := S.sl.set i (some r) } σ := by
  have := k.setR (i := i) q
  rwa [set_at hv] at this
theorem Ok.datAt (k : Ok K A F H S σ) {i : Nat} {d : PyData} {v : V} (hv : σ[i]? = some (some v)) (r : Rp K F v d) : Ok K A F H { S with sl := S.sl.set i (some (.dat d)) } σ := k.rAt hv (.dat r)
end
end Fu

set_option maxHeartbeats 4000000
namespace Fu
open PySem PySem.Spec PyProof.Rows L2
variable [TabsC]

theorem bind_inv {α β : Type} {x : Option α} {f : α → Option β} {b : β} (h : x.bind f = some b) : ∃ a, x = some a ∧ f a = some b := by
  cases x with
  | none => cases h
  | some a => exact ⟨a, rfl, h⟩

/-! ### the judgements: an expression's reading meets a function on states -/
def RdE (K : PySem.W.Frag) (t : TE) (g : M D) : Prop := ∀ A F H S σ d S' (Q : VK), Ok K A F H S σ → g S = some (d, S') →
  (∀ A' F' H' v, A <+: A' → SameT F F' → Ok K A' F' H' S' σ → Rp K F' v d → Q v H') → t σ H Q
def RdT (K : PySem.W.Frag) (t : TT) (g : M Bool) : Prop := ∀ A F H S σ b S' (Q : Bool → Hp → Prop), Ok K A F H S σ → g S = some (b, S') →
  (∀ A' F' H', A <+: A' → SameT F F' → Ok K A' F' H' S' σ → Q b H') → t σ H Q
def RdA (K : PySem.W.Frag) (t : TA) (g : M (List D)) : Prop := ∀ A F H S σ ds S' (Q : List V → Hp → Prop), Ok K A F H S σ → g S = some (ds, S') →
  (∀ A' F' H' vs, A <+: A' → SameT F F' → Ok K A' F' H' S' σ → Rps K F' vs ds → Q vs H') → t σ H Q
structure GE (X : Cx) (e : Expr) (g : M D) : Prop where
  ex : ∃ t, PE X e t ∧ RdE X.K t g
structure GT (X : Cx) (e : Expr) (g : M Bool) : Prop where
  ex : ∃ t, PT X e t ∧ RdT X.K t g
structure GW (X : Cx) (e : Expr) (g : M Bool) : Prop where
  ex : ∃ t, PW X e t ∧ RdT X.K t g
structure GA (X : Cx) (es : List Expr) (g : M (List D)) : Prop where
  ex : ∃ t, PA X es t ∧ RdA X.K t g

/-! ### names and constants -/
def gVar (i : Nat) : M D := fun S => match S.sl[i]? with
  | some (some (.dat d)) => some (d, S)
  | some (some (.own j)) => match S.os[j]? with
    | some (some (.lst ds)) => some (.list ds, ⟨S.sl.set i (some (.dat (.list ds))), S.os.set j none⟩)
    | _ => none
  | _ => none
def gC (d : D) : M D := fun S => some (d, S)
section
variable {X : Cx} {pos : Pos}
theorem rd_var {K : PySem.W.Frag} (i : Nat) : RdE K (tVar i) (gVar i) := by
  intro A F H S σ d S' Q k h post
  unfold gVar at h
  cases e : S.sl[i]? with
  | none => rw [e] at h; cases h
  | some r =>
    cases r with
    | none => rw [e] at h; cases h
    | some r =>
      cases r with
      | dat d' =>
        rw [e] at h; cases h
        obtain ⟨v, ev, r⟩ := k.slot i _ e
        exact ⟨v, ev, post A F H v (List.prefix_refl _) (SameT.refl F) k r⟩
      | scr ns => rw [e] at h; cases h
      | tup rs => rw [e] at h; cases h
      | exc c => rw [e] at h; cases h
      | own j =>
        rw [e] at h
        simp only at h
        cases e2 : S.os[j]? with
        | none => rw [e2] at h; cases h
        | some c =>
          cases c with
          | none => rw [e2] at h; cases h
          | some c =>
            cases c with
            | lst ds =>
              rw [e2] at h; cases h
              obtain ⟨a, ha, ev⟩ := k.oslot i j e
              obtain ⟨a', F', ha', sm, r, k', _⟩ := k.seal e2
              rw [ha] at ha'; cases ha'
              exact ⟨_, ev, post A F' H _ (List.prefix_refl _) sm (k'.datAt ev r) r⟩
            | lR _ => rw [e2] at h; cases h
            | dR _ => rw [e2] at h; cases h
            | tR _ => rw [e2] at h; cases h
theorem e_var (i : Nat) {x : Str} (hN : X.N[i]? = some x := by rfl) (hv : Vis X.env.scope x := by first | exact Or.inl rfl | exact Or.inr (Or.inl rfl) | exact Or.inr (Or.inr rfl)) (hd : (x == ("__debug__" : Str)) = false := by decide)
    (hcd : (x == ("__classdict__" : Str)) = false := by decide) : GE X (.Name x pos) (gVar i) := ⟨_, pe_var hN hv hd hcd, rd_var i⟩
theorem rd_c {K : PySem.W.Frag} {v : V} {d : D} (r : ∀ F, Rp K F v d) : RdE K (tC v) (gC d) := by
  intro A F H S σ d' S' Q k h post
  cases h
  exact post A F H v (List.prefix_refl _) (SameT.refl F) k (r F)
theorem e_int {i : Int} {j} : GE X (.Constant (.int i) j pos) (gC (.int i)) := ⟨_, pe_int, rd_c fun _ => .int i⟩
theorem e_bl {b : Bool} {j} : GE X (.Constant (.bool b) j pos) (gC (.bool b)) := ⟨_, pe_bl, rd_c fun _ => .bl b⟩
theorem e_non {j} : GE X (.Constant .none j pos) (gC .none) := ⟨_, pe_non, rd_c fun _ => .non⟩
theorem e_str {x : Str} {j} (hz : x.length ≤ sizeLine := by decide) : GE X (.Constant (.str x) j pos) (gC (.str x)) := ⟨_, pe_str, rd_c fun _ => .str hz⟩
/-- a module's constant -/
theorem e_gint {x : Str} {i : Int} {t : Tok} (hm : X.mg x = some (.int i t)) (hg : Gl X x := by rfl) (hd : (x == ("__debug__" : Str)) = false := by decide) : GE X (.Name x pos) (gC (.int i)) := ⟨_, pe_glob (v := .int i) hg hm ⟨t, rfl⟩ hd, rd_c fun _ => .int i⟩
end

/-! ### operators by values -/
def RdOp (K : PySem.W.Frag) (r : R2) (f : D → D → Option D) : Prop := ∀ A F H S σ x y d e z Q, Ok K A F H S σ → Rp K F x d → Rp K F y e → f d e = some z →
  (∀ F' H' v, SameT F F' → Ok K A F' H' S σ → Rp K F' v z → Q v H') → r x y H Q
def gBin (f : D → D → Option D) (ga gb : M D) : M D := fun S => (ga S).bind fun p => (gb p.2).bind fun q => (f p.1 q.1).bind fun z => some (z, q.2)
section
variable {X : Cx} {pos : Pos} {a b : Expr} {ga gb : M D}
theorem rd_op {K : PySem.W.Frag} {r : R2} {f : D → D → Option D} {ta tb : TE} (hf : RdOp K r f) (ra : RdE K ta ga) (rb : RdE K tb gb) : RdE K (tOp r ta tb) (gBin f ga gb) := by
  intro A F H S σ d S' Q k h post
  obtain ⟨⟨x, S1⟩, h1, h⟩ := bind_inv h
  obtain ⟨⟨y, S2⟩, h2, h⟩ := bind_inv h
  obtain ⟨z, h3, h⟩ := bind_inv h
  cases h
  refine ra A F H S σ x S1 _ k h1 fun A1 F1 H1 v1 p1 s1 k1 r1 => rb A1 F1 H1 S1 σ y S2 _ k1 h2 fun A2 F2 H2 v2 p2 s2 k2 r2 => ?_
  exact hf A2 F2 H2 _ σ v1 v2 x y _ Q k2 (r1.mono s2 _ _) r2 h3 fun F3 H3 v s3 k3 r3 => post A2 F3 H3 v (p1.trans p2) (s1.trans (s2.trans s3)) k3 r3
theorem e_op {op : Operator} {r : R2} {f : D → D → Option D} (ho : OpR X (binaryOp op) r) (hf : RdOp X.K r f) (ha : GE X a ga) (hb : GE X b gb) : GE X (.BinOp a op b pos) (gBin f ga gb) :=
  let ⟨_, pa, ra⟩ := ha.ex; let ⟨_, pb, rb⟩ := hb.ex; ⟨_, pe_op ho pa pb, rd_op hf ra rb⟩
theorem e_cmpR {op : CmpOp} {r : R2} {f : D → D → Option D} (ho : OpR X (compareOp op) r) (hf : RdOp X.K r f) (hm : behindInMarks op b = false) (ha : GE X a ga) (hb : GE X b gb) : GE X (.Compare a [op] [b] pos) (gBin f ga gb) :=
  let ⟨_, pa, ra⟩ := ha.ex; let ⟨_, pb, rb⟩ := hb.ex; ⟨_, pe_cmpR ho pa pb hm, rd_op hf ra rb⟩
def gB (g : M D) : M Bool := fun S => (g S).bind fun p => match p.1 with
  | .bool b => some (b, p.2)
  | _ => none
theorem rd_test {K : PySem.W.Frag} {t : TE} {g : M D} (h : RdE K t g) : RdT K (tB t) (gB g) := by
  intro A F H S σ b S' Q k e post
  obtain ⟨⟨d, S1⟩, h1, e⟩ := bind_inv e
  refine h A F H S σ d S1 _ k h1 fun A1 F1 H1 v p1 s1 k1 r1 => ?_
  cases d <;> simp only at e <;> cases e
  cases r1
  exact ⟨_, rfl, post A1 F1 H1 p1 s1 k1⟩
theorem t_cmpR {op : CmpOp} {r : R2} {f : D → D → Option D} (ho : OpR X (compareOp op) r) (hf : RdOp X.K r f) (hm : behindInMarks op b = false) (ha : GE X a ga) (hb : GE X b gb) : GT X (.Compare a [op] [b] pos) (gB (gBin f ga gb)) :=
  let ⟨_, pa, ra⟩ := ha.ex; let ⟨_, pb, rb⟩ := hb.ex; ⟨_, pt_cmpR ho pa pb hm, rd_test (rd_op hf ra rb)⟩
theorem t_val {e : Expr} {g : M D} (h : GE X e g) (he : ∀ whole, isTrue e X.env whole = (do let v ← whole; standAt e.pos; holding [v] (truthy v)) := by intro _; rfl) : GT X e (gB g) :=
  let ⟨_, pe, re⟩ := h.ex; ⟨_, pt_val pe he, rd_test re⟩

/-! ### the operators -/
def dAdd : D → D → Option D
  | .int i, .int j => some (.int (i + j))
  | .str x, .str y => if x.length + y.length ≤ sizeLine then some (.str (x ++ y)) else none
  | .list xs, .list ys => if xs.length + ys.length ≤ sizeLine then some (.list (xs ++ ys)) else none
  | .tuple xs, .tuple ys => if xs.length + ys.length ≤ sizeLine then some (.tuple (xs ++ ys)) else none
  | _, _ => none

end

section
variable {K : PySem.W.Frag}
theorem rps_upd {F : Hp} {p : Addr} {o : HO} {vs : List V} {ds : List D} (h : F p = none) (r : Rps K F vs ds) : Rps K (upd F p o) vs ds := Rps.mono (same_upd h) _ _ r
/-- a new list, a new tuple, known for good -/
theorem Ok.newList {A : List Addr} {F H : Hp} {S : Sx} {σ : L2.St} (k : Ok K A F H S σ) {p : Addr} {vs : List V} {ds : List D} (hp : H p = none) (r : Rps K F vs ds) (hz : ds.length ≤ sizeLine) :
    SameT F (upd F p (.lst vs)) ∧ Ok K A (upd F p (.lst vs)) (upd H p (.lst vs)) S σ ∧ Rp K (upd F p (.lst vs)) (.ref p) (.list ds) :=
  have fp := k.sub.none hp
  ⟨same_upd fp, k.laid hp, .lst upd_same (rps_upd fp r) hz⟩
theorem Ok.newTup {A : List Addr} {F H : Hp} {S : Sx} {σ : L2.St} (k : Ok K A F H S σ) {p : Addr} {vs : List V} {ds : List D} (hp : H p = none) (r : Rps K F vs ds) (hz : ds.length ≤ sizeLine) :
    SameT F (upd F p (.tup vs)) ∧ Ok K A (upd F p (.tup vs)) (upd H p (.tup vs)) S σ ∧ Rp K (upd F p (.tup vs)) (.ref p) (.tuple ds) :=
  have fp := k.sub.none hp
  ⟨same_upd fp, k.laid hp, .tup upd_same (rps_upd fp r) hz⟩
theorem rp_list_inv {F : Hp} {v : V} {ds : List D} (h : Rp K F v (.list ds)) : ∃ a xs, v = .ref a ∧ F a = some (.lst xs) ∧ Rps K F xs ds ∧ ds.length ≤ sizeLine := by
  cases h with
  | lst h1 h2 h3 => exact ⟨_, _, rfl, h1, h2, h3⟩
theorem rp_tup_inv {F : Hp} {v : V} {ds : List D} (h : Rp K F v (.tuple ds)) : ∃ a xs, v = .ref a ∧ SqT K F a xs ∧ Rps K F xs ds ∧ ds.length ≤ sizeLine := by
  cases h with
  | tup h1 h2 h3 => exact ⟨_, _, rfl, .inl (.inl h1), h2, h3⟩
theorem rp_str_inv {F : Hp} {v : V} {x : Str} (h : Rp K F v (.str x)) : v = .str x ∧ x.length ≤ sizeLine := by
  cases h with
  | str h => exact ⟨rfl, h⟩
theorem rp_int_inv {F : Hp} {v : V} {i : Int} (h : Rp K F v (.int i)) : v = .int i := by cases h; rfl
theorem rp_bool_inv {F : Hp} {v : V} {i : Bool} (h : Rp K F v (.bool i)) : v = .bl i := by cases h; rfl

def rAddAny (K : PySem.W.Frag) : R2 := fun x y H Q => (rI0 (fun i j => .int (i + j)) x y H Q) ∨ (∃ i j, x = .str i ∧ y = .str j ∧ i.length + j.length ≤ sizeLine ∧ Q (.str (i ++ j)) H) ∨ rCat x y H Q ∨ rCatA K x y H Q
theorem op_addAny {X : Cx} : OpR X (binaryOp .Add) (rAddAny X.K) := OpR.or op_add (OpR.or op_add_str (OpR.or op_cat op_catA))
theorem str_app_len (x y : Str) : (x ++ y).length = x.length + y.length := by
  show (Str.append x y).length = _
  simp [Str.append, Str.length]
theorem rd_add : RdOp K (rAddAny K) dAdd := by
  intro A F H S σ x y d e z Q k rx ry h post
  have id1 : ∀ v, Rp K F v z → Q v H := fun v r => post F H v (SameT.refl F) k r
  cases d <;> cases e <;> simp only [dAdd] at h <;> try cases h
  · cases rp_int_inv rx; cases rp_int_inv ry
    exact .inl ⟨_, _, rfl, rfl, id1 _ (.int _)⟩
  · split at h
    · rename_i hz
      cases h
      obtain ⟨rfl, _⟩ := rp_str_inv rx
      obtain ⟨rfl, _⟩ := rp_str_inv ry
      exact .inr (.inl ⟨_, _, rfl, rfl, hz, id1 _ (.str (by rw [str_app_len]; exact hz))⟩)
    · cases h
  · split at h
    · rename_i hz
      cases h
      obtain ⟨a, xs, rfl, h1, h2, _⟩ := rp_list_inv rx
      obtain ⟨b, ys, rfl, g1, g2, _⟩ := rp_list_inv ry
      refine .inr (.inr (.inl ⟨a, b, xs, ys, rfl, rfl, k.sub.same _ _ h1, k.sub.same _ _ g1, by rw [h2.length, g2.length]; exact hz, fun p hp => ?_⟩))
      obtain ⟨s1, k1, r1⟩ := k.newList hp (h2.append g2) (by rw [List.length_append]; exact hz)
      exact post _ _ _ s1 k1 r1
    · cases h
  · split at h
    · rename_i hz
      cases h
      obtain ⟨a, xs, rfl, h1, h2, _⟩ := rp_tup_inv rx
      obtain ⟨b, ys, rfl, g1, g2, _⟩ := rp_tup_inv ry
      refine .inr (.inr (.inr ⟨a, b, xs, ys, rfl, rfl, sqT_same k.sub.same.t h1, sqT_same k.sub.same.t g1, by rw [h2.length, g2.length]; exact hz, fun e => ?_, fun e1 e2 => ?_, fun e1 e2 p hp => ?_⟩))
      · subst e
        cases h2
        exact id1 _ (by simpa using ry)
      · subst e2
        cases g2
        exact id1 _ (by simpa using rx)
      · obtain ⟨s1, k1, r1⟩ := k.newTup hp (h2.append g2) (by rw [List.length_append]; exact hz)
        exact post _ _ _ s1 k1 r1
    · cases h

/-! ### other operators on ints -/
def dSub : D → D → Option D
  | .int i, .int j => some (.int (i - j))
  | _, _ => none
theorem rd_sub : RdOp K (rI0 fun i j => .int (i - j)) dSub := by
  intro A F H S σ x y d e z Q k rx ry h post
  cases d <;> cases e <;> simp only [dSub] at h <;> cases h
  cases rp_int_inv rx; cases rp_int_inv ry
  exact ⟨_, _, rfl, rfl, post F H _ (SameT.refl F) k (.int _)⟩
end
end Fu

set_option maxHeartbeats 4000000
namespace Fu
open PySem PySem.Spec PyProof.Rows L2
variable [TabsC]
section
variable {K : PySem.W.Frag}
/-! ### products, quotients, rests, powers -/
instance (i j : Int) : Decidable (CMulW i j) := inferInstanceAs (Decidable (_ < _))
instance (i j : Int) : Decidable (CDivW i j) := inferInstanceAs (Decidable (_ ∧ _))
instance (i j : Int) : Decidable (CPow i j) := inferInstanceAs (Decidable (_ ∧ _ ∧ _))
def dMul : D → D → Option D
  | .int i, .int j => if CMulW i j then some (.int (i * j)) else none
  | .list xs, .int k => if -(2 ^ 63) ≤ k ∧ k < 2 ^ 63 ∧ xs.length * k.toNat ≤ sizeLine then some (.list (List.replicate k.toNat xs).flatten) else none
  | _, _ => none
def rMulAny : R2 := fun x y H Q => rI CMulW (fun i j => .int (i * j)) x y H Q ∨ rRep x y H Q
theorem op_mulAny {X : Cx} : OpR X (binaryOp .Mult) rMulAny := OpR.or op_mulW op_rep
theorem rd_mul : RdOp K rMulAny dMul := by
  intro A F H S σ x y d e z Q k rx ry h post
  cases d <;> cases e <;> simp only [dMul] at h <;> try cases h
  · split at h
    · rename_i hz
      cases h
      cases rp_int_inv rx; cases rp_int_inv ry
      exact .inl ⟨_, _, rfl, rfl, hz, post F H _ (SameT.refl F) k (.int _)⟩
    · cases h
  · split at h
    · rename_i hz
      cases h
      obtain ⟨a, xs, rfl, h1, h2, _⟩ := rp_list_inv rx
      cases rp_int_inv ry
      refine .inr ⟨a, _, xs, rfl, rfl, k.sub.same _ _ h1, hz.1, hz.2.1, by rw [h2.length]; exact hz.2.2, fun p hp => ?_⟩
      obtain ⟨s1, k1, r1⟩ := k.newList hp (h2.rep _) (by rw [PyProof.Rows.lm_len_rep_flat, Nat.mul_comm]; exact hz.2.2)
      exact post _ _ _ s1 k1 r1
    · cases h
def dDiv : D → D → Option D
  | .int i, .int j => if CDivW i j then some (.int (i / j)) else none
  | _, _ => none
def dMod : D → D → Option D
  | .int i, .int j => if 0 < j then some (.int (i % j)) else none
  | _, _ => none
def dPow : D → D → Option D
  | .int i, .int j => if CPow i j then some (.int (i ^ j.toNat)) else none
  | _, _ => none
theorem rd_ii {C : Int → Int → Prop} [∀ i j, Decidable (C i j)] {f : Int → Int → Int} {g : D → D → Option D} (hg : ∀ d e z, g d e = some z → ∃ i j, d = .int i ∧ e = .int j ∧ C i j ∧ z = .int (f i j)) : RdOp K (rI C fun i j => .int (f i j)) g := by
  intro A F H S σ x y d e z Q k rx ry h post
  obtain ⟨i, j, rfl, rfl, c, rfl⟩ := hg d e z h
  cases rp_int_inv rx; cases rp_int_inv ry
  exact ⟨_, _, rfl, rfl, c, post F H _ (SameT.refl F) k (.int _)⟩
theorem rd_div : RdOp K (rI CDivW fun i j => .int (i / j)) dDiv := rd_ii fun d e z h => by
  cases d <;> cases e <;> simp only [dDiv] at h <;> try cases h
  split at h
  · cases h; exact ⟨_, _, rfl, rfl, by assumption, rfl⟩
  · cases h
theorem rd_mod : RdOp K (rI (fun _ j => 0 < j) fun i j => .int (i % j)) dMod := rd_ii fun d e z h => by
  cases d <;> cases e <;> simp only [dMod] at h <;> try cases h
  split at h
  · cases h; exact ⟨_, _, rfl, rfl, by assumption, rfl⟩
  · cases h
theorem rd_pow : RdOp K (rI CPow fun i j => .int (i ^ j.toNat)) dPow := rd_ii fun d e z h => by
  cases d <;> cases e <;> simp only [dPow] at h <;> try cases h
  split at h
  · cases h; exact ⟨_, _, rfl, rfl, by assumption, rfl⟩
  · cases h

/-! ### comparisons -/
def dCmp (p : Int → Int → Bool) : D → D → Option D
  | .int i, .int j => some (.bool (p i j))
  | _, _ => none
theorem rd_cmp (p : Int → Int → Bool) : RdOp K (rI0 fun i j => .bl (p i j)) (dCmp p) := by
  intro A F H S σ x y d e z Q k rx ry h post
  cases d <;> cases e <;> simp only [dCmp] at h <;> cases h
  cases rp_int_inv rx; cases rp_int_inv ry
  exact ⟨_, _, rfl, rfl, post F H _ (SameT.refl F) k (.bl _)⟩
def strEq : D → D → Option Bool
  | .str x, .str y => some (decide (x = y))
  | _, _ => none
def dEq (d e : D) : Option D := if SeqAt.shaped d = true ∧ SeqAt.shaped e = true then some (.bool (PyData.eqv d e)) else (strEq d e).map .bool
def dNe (d e : D) : Option D := if SeqAt.shaped d = true ∧ SeqAt.shaped e = true then some (.bool (!PyData.eqv d e)) else (strEq d e).map fun b => .bool (!b)
def rEqAny (K : PySem.W.Frag) : R2 := fun x y H Q => rEqD K x y H Q ∨ rEq x y H Q
def rNeAny (K : PySem.W.Frag) : R2 := fun x y H Q => rNeD K x y H Q ∨ rNe x y H Q
theorem op_eqAny {X : Cx} (hu : X.A.units + 64 < cLine) : OpR X (compareOp .Eq) (rEqAny X.K) := OpR.or (op_eqD hu) op_eq
theorem op_neAny {X : Cx} (hu : X.A.units + 64 < cLine) : OpR X (compareOp .NotEq) (rNeAny X.K) := OpR.or (op_neD hu) op_ne
theorem strEq_inv {d e : D} {b : Bool} (h : strEq d e = some b) : ∃ x y, d = .str x ∧ e = .str y ∧ b = decide (x = y) := by
  unfold strEq at h
  split at h
  · cases h; exact ⟨_, _, rfl, rfl, rfl⟩
  · cases h
theorem strV_eq (x y : Str) : decide (V.str x = V.str y) = decide (x = y) := by
  by_cases h : x = y
  · subst h; simp
  · rw [decide_eq_false h, decide_eq_false (fun z => h (by injection z))]
theorem Rp.dpH {F H : Hp} {v : V} {d : D} (s : SameT F H) (c : SeqAt.shaped d = true) (r : Rp K F v d) : Dp K H v d := Rp.dp _ _ (SeqAt.canLay_of_shaped c) (r.mono s _ _)
theorem rd_eq : RdOp K (rEqAny K) dEq := by
  intro A F H S σ x y d e z Q k rx ry h post
  unfold dEq at h
  split at h
  · rename_i c
    cases h
    exact .inl ⟨d, e, rx.dpH k.sub.same.t c.1, ry.dpH k.sub.same.t c.2, c.1, c.2, post F H _ (SameT.refl F) k (.bl _)⟩
  · obtain ⟨b, h1, rfl⟩ := Option.map_eq_some_iff.mp h
    obtain ⟨u, v, rfl, rfl, rfl⟩ := strEq_inv h1
    obtain ⟨rfl, _⟩ := rp_str_inv rx
    obtain ⟨rfl, _⟩ := rp_str_inv ry
    exact .inr ⟨rfl, post F H _ (SameT.refl F) k (by rw [strV_eq]; exact .bl _)⟩
theorem rd_ne : RdOp K (rNeAny K) dNe := by
  intro A F H S σ x y d e z Q k rx ry h post
  unfold dNe at h
  split at h
  · rename_i c
    cases h
    exact .inl ⟨d, e, rx.dpH k.sub.same.t c.1, ry.dpH k.sub.same.t c.2, c.1, c.2, post F H _ (SameT.refl F) k (.bl _)⟩
  · obtain ⟨b, h1, rfl⟩ := Option.map_eq_some_iff.mp h
    obtain ⟨u, v, rfl, rfl, rfl⟩ := strEq_inv h1
    obtain ⟨rfl, _⟩ := rp_str_inv rx
    obtain ⟨rfl, _⟩ := rp_str_inv ry
    exact .inr ⟨rfl, post F H _ (SameT.refl F) k (by rw [strV_eq]; exact .bl _)⟩
/-- in a list, in a tuple, in a text -/
def dIn : D → D → Option D
  | .str x, .str y => some (.bool (!(Builtin.Str.occurrences y x 0 y.length 1).isEmpty))
  | d, .list ds => if SeqAt.shaped d = true ∧ SeqAt.shaped (.list ds) = true then some (.bool (ds.any fun z => PyData.eqv z d)) else none
  | d, .tuple ds => if SeqAt.shaped d = true ∧ SeqAt.shaped (.tuple ds) = true then some (.bool (ds.any fun z => PyData.eqv z d)) else none
  | _, _ => none
end

/-! ### the expressions' rules by operators -/
section
variable {X : Cx} {pos : Pos} {a b c : Expr} {ga gb gc : M D}
theorem e_add (ha : GE X a ga) (hb : GE X b gb) : GE X (.BinOp a .Add b pos) (gBin dAdd ga gb) := e_op op_addAny rd_add ha hb
theorem e_sub (ha : GE X a ga) (hb : GE X b gb) : GE X (.BinOp a .Sub b pos) (gBin dSub ga gb) := e_op op_sub rd_sub ha hb
theorem e_mul (ha : GE X a ga) (hb : GE X b gb) : GE X (.BinOp a .Mult b pos) (gBin dMul ga gb) := e_op op_mulAny rd_mul ha hb
theorem e_div (ha : GE X a ga) (hb : GE X b gb) : GE X (.BinOp a .FloorDiv b pos) (gBin dDiv ga gb) := e_op op_fdivW rd_div ha hb
theorem e_mod (ha : GE X a ga) (hb : GE X b gb) : GE X (.BinOp a .Mod b pos) (gBin dMod ga gb) := e_op op_mod rd_mod ha hb
theorem e_pow (ha : GE X a ga) (hb : GE X b gb) : GE X (.BinOp a .Pow b pos) (gBin dPow ga gb) := e_op op_pow rd_pow ha hb
abbrev dLt := dCmp fun i j => decide (i < j)
abbrev dGt := dCmp fun i j => decide (j < i)
abbrev dGe := dCmp fun i j => decide (j ≤ i)
theorem e_lt (ha : GE X a ga) (hb : GE X b gb) : GE X (.Compare a [.Lt] [b] pos) (gBin dLt ga gb) := e_cmpR op_lt (rd_cmp _) (nomark _) ha hb
theorem e_ge (ha : GE X a ga) (hb : GE X b gb) : GE X (.Compare a [.GtE] [b] pos) (gBin dGe ga gb) := e_cmpR op_ge (rd_cmp _) (nomark _) ha hb
theorem e_eq (hu : X.A.units + 64 < cLine) (ha : GE X a ga) (hb : GE X b gb) : GE X (.Compare a [.Eq] [b] pos) (gBin dEq ga gb) := e_cmpR (op_eqAny hu) rd_eq (nomark _) ha hb
theorem e_ne (hu : X.A.units + 64 < cLine) (ha : GE X a ga) (hb : GE X b gb) : GE X (.Compare a [.NotEq] [b] pos) (gBin dNe ga gb) := e_cmpR (op_neAny hu) rd_ne (nomark _) ha hb
theorem t_gt (ha : GE X a ga) (hb : GE X b gb) : GT X (.Compare a [.Gt] [b] pos) (gB (gBin dGt ga gb)) := t_cmpR op_gt (rd_cmp _) (nomark _) ha hb
theorem t_ge (ha : GE X a ga) (hb : GE X b gb) : GT X (.Compare a [.GtE] [b] pos) (gB (gBin dGe ga gb)) := t_cmpR op_ge (rd_cmp _) (nomark _) ha hb
theorem t_eq (hu : X.A.units + 64 < cLine) (ha : GE X a ga) (hb : GE X b gb) : GT X (.Compare a [.Eq] [b] pos) (gB (gBin dEq ga gb)) := t_cmpR (op_eqAny hu) rd_eq (nomark _) ha hb
theorem t_ne (hu : X.A.units + 64 < cLine) (ha : GE X a ga) (hb : GE X b gb) : GT X (.Compare a [.NotEq] [b] pos) (gB (gBin dNe ga gb)) := t_cmpR (op_neAny hu) rd_ne (nomark _) ha hb
/-! ### and, or, not, if -/
def gAnd (g h : M Bool) : M Bool := fun S => (g S).bind fun p => if p.1 = true then h p.2 else some (false, p.2)
def gOr (g h : M Bool) : M Bool := fun S => (g S).bind fun p => if p.1 = true then some (true, p.2) else h p.2
def gNot (g : M Bool) : M Bool := fun S => (g S).bind fun p => some (!p.1, p.2)
def gIf (t : M Bool) (g h : M D) : M D := fun S => (t S).bind fun p => if p.1 = true then g p.2 else h p.2
variable {rest : List Expr} {g h : M Bool}
theorem w_or1 (ha : GT X a g) : GW X (.BoolOp .Or [a] pos) g := let ⟨_, pa, ra⟩ := ha.ex; ⟨_, pw_or1 pa, ra⟩
theorem rd_or {K : PySem.W.Frag} {t u : TT} (ha : RdT K t g) (hb : RdT K u h) : RdT K (tOr t u) (gOr g h) := by
  intro A F H S σ d S' Q k e post
  obtain ⟨⟨x, S1⟩, h1, e⟩ := bind_inv e
  refine ha A F H S σ x S1 _ k h1 fun A1 F1 H1 p1 s1 k1 => ?_
  cases x with
  | false => exact hb A1 F1 H1 S1 σ d S' Q k1 e fun A2 F2 H2 p2 s2 k2 => post A2 F2 H2 (p1.trans p2) (s1.trans s2) k2
  | true =>
    cases e
    exact post A1 F1 H1 p1 s1 k1
theorem w_or (ha : GT X a g) (hb : GW X (.BoolOp .Or (b :: rest) pos) h) : GW X (.BoolOp .Or (a :: b :: rest) pos) (gOr g h) :=
  let ⟨_, pa, ra⟩ := ha.ex; let ⟨_, pb, rb⟩ := hb.ex; ⟨_, pw_or pa pb, rd_or ra rb⟩
theorem t_w {e : Expr} (hw : GW X e g) : GT X e g := let ⟨_, pa, ra⟩ := hw.ex; ⟨_, pa.pt, ra⟩
theorem t_not (ha : GT X a g) : GT X (.UnaryOp .Not a pos) (gNot g) := by
  obtain ⟨t, pa, ra⟩ := ha.ex
  refine ⟨_, pt_not pa, fun A F H S σ d S' Q k e post => ?_⟩
  obtain ⟨⟨x, S1⟩, h1, e⟩ := bind_inv e
  cases e
  exact ra A F H S σ x _ _ k h1 post
/-- as values -/
def gAndV (g h : M D) : M D := fun S => (g S).bind fun p => match p.1 with
  | .bool true => h p.2
  | .bool false => some (.bool false, p.2)
  | _ => none
def gOrV (g h : M D) : M D := fun S => (g S).bind fun p => match p.1 with
  | .bool true => some (.bool true, p.2)
  | .bool false => h p.2
  | _ => none
def gNotV (g : M D) : M D := fun S => (g S).bind fun p => match p.1 with
  | .bool b => some (.bool (!b), p.2)
  | _ => none
theorem e_one {op} (ha : GE X a ga) : GE X (.BoolOp op [a] pos) ga := let ⟨_, pa, ra⟩ := ha.ex; ⟨_, pe_one pa, ra⟩
theorem e_and (ha : GE X a ga) (hb : GE X (.BoolOp .And (b :: rest) pos) gb) : GE X (.BoolOp .And (a :: b :: rest) pos) (gAndV ga gb) := by
  obtain ⟨t, pa, ra⟩ := ha.ex
  obtain ⟨u, pb, rb⟩ := hb.ex
  refine ⟨_, pe_and pa pb, fun A F H S σ d S' Q k e post => ?_⟩
  obtain ⟨⟨x, S1⟩, h1, e⟩ := bind_inv e
  refine ra A F H S σ x S1 _ k h1 fun A1 F1 H1 v p1 s1 k1 r1 => ?_
  cases x <;> simp only at e <;> try cases e
  rename_i y
  cases rp_bool_inv r1
  refine ⟨y, rfl, ?_⟩
  cases y with
  | true => exact rb A1 F1 H1 S1 σ d S' Q k1 e fun A2 F2 H2 v p2 s2 k2 => post A2 F2 H2 v (p1.trans p2) (s1.trans s2) k2
  | false =>
    cases e
    exact post A1 F1 H1 _ p1 s1 k1 (.bl _)
theorem e_not (ha : GE X a ga) : GE X (.UnaryOp .Not a pos) (gNotV ga) := by
  obtain ⟨t, pa, ra⟩ := ha.ex
  refine ⟨_, pe_not pa, fun A F H S σ d S' Q k e post => ?_⟩
  obtain ⟨⟨x, S1⟩, h1, e⟩ := bind_inv e
  refine ra A F H S σ x S1 _ k h1 fun A1 F1 H1 v p1 s1 k1 r1 => ?_
  cases x <;> simp only at e <;> try cases e
  cases rp_bool_inv r1
  exact ⟨_, rfl, post A1 F1 H1 _ p1 s1 k1 (.bl _)⟩
theorem e_if (hc : GT X c g) (ha : GE X a ga) (hb : GE X b gb) : GE X (.IfExp c a b pos) (gIf g ga gb) := by
  obtain ⟨t, pc, rc⟩ := hc.ex
  obtain ⟨_, pa, ra⟩ := ha.ex
  obtain ⟨_, pb, rb⟩ := hb.ex
  refine ⟨_, pe_ifExp pc pa pb, fun A F H S σ d S' Q k e post => ?_⟩
  obtain ⟨⟨x, S1⟩, h1, e⟩ := bind_inv e
  refine rc A F H S σ x S1 _ k h1 fun A1 F1 H1 p1 s1 k1 => ?_
  cases x with
  | true => exact ra A1 F1 H1 S1 σ d S' Q k1 e fun A2 F2 H2 v p2 s2 k2 => post A2 F2 H2 v (p1.trans p2) (s1.trans s2) k2
  | false => exact rb A1 F1 H1 S1 σ d S' Q k1 e fun A2 F2 H2 v p2 s2 k2 => post A2 F2 H2 v (p1.trans p2) (s1.trans s2) k2
def gUn (f : D → Option D) (g : M D) : M D := fun S => (g S).bind fun p => (f p.1).bind fun z => some (z, p.2)
def dNeg : D → Option D
  | .int i => some (.int (-i))
  | _ => none
theorem e_neg (ha : GE X a ga) : GE X (.UnaryOp .USub a pos) (gUn dNeg ga) := by
  obtain ⟨t, pa, ra⟩ := ha.ex
  refine ⟨_, pe_un un_neg pa, fun A F H S σ d S' Q k e post => ?_⟩
  obtain ⟨⟨x, S1⟩, h1, e⟩ := bind_inv e
  obtain ⟨z, h2, e⟩ := bind_inv e
  cases e
  refine ra A F H S σ x _ _ k h1 fun A1 F1 H1 v p1 s1 k1 r1 => ?_
  cases x <;> simp only [dNeg] at h2 <;> cases h2
  cases rp_int_inv r1
  exact ⟨_, rfl, post A1 F1 H1 _ p1 s1 k1 (.int _)⟩

/-! ### arguments, displays -/
def gNil : M (List D) := fun S => some ([], S)
def gCons (g : M D) (gs : M (List D)) : M (List D) := fun S => (g S).bind fun p => (gs p.2).bind fun q => some (p.1 :: q.1, q.2)
variable {e : Expr} {es : List Expr} {ge : M D} {gs : M (List D)}
theorem a_nil : GA X [] gNil := ⟨_, pa_nil, fun A F H S σ d S' Q k e post => by cases e; exact post A F H _ (List.prefix_refl _) (SameT.refl F) k .nil⟩
theorem a_cons (ha : GE X e ge) (hs : GA X es gs) (hst : starEach (e :: es) X.env = (false, eval e X.env) :: starEach es X.env := by rfl) : GA X (e :: es) (gCons ge gs) := by
  obtain ⟨t, pa, ra⟩ := ha.ex
  obtain ⟨u, pb, rb⟩ := hs.ex
  refine ⟨_, pa_cons pa pb hst, fun A F H S σ d S' Q k e post => ?_⟩
  obtain ⟨⟨x, S1⟩, h1, e⟩ := bind_inv e
  obtain ⟨⟨y, S2⟩, h2, e⟩ := bind_inv e
  cases e
  refine ra A F H S σ x S1 _ k h1 fun A1 F1 H1 v p1 s1 k1 r1 => rb A1 F1 H1 S1 σ y S2 _ k1 h2 fun A2 F2 H2 vs p2 s2 k2 r2 => ?_
  exact post A2 F2 H2 _ (p1.trans p2) (s1.trans s2) k2 (.cons (r1.mono s2 _ _) r2)
def gTup (g : M (List D)) : M D := fun S => (g S).bind fun p => if p.1.length ≤ sizeLine then some (.tuple p.1, p.2) else none
def gLst (g : M (List D)) : M D := fun S => (g S).bind fun p => if p.1.length ≤ sizeLine then some (.list p.1, p.2) else none
theorem e_tup {x1} (hs : GA X es gs) : GE X (.Tuple es x1 pos) (gTup gs) := by
  obtain ⟨u, pb, rb⟩ := hs.ex
  refine ⟨_, pe_tup pb, fun A F H S σ d S' Q k e post => ?_⟩
  obtain ⟨⟨x, S1⟩, h1, e⟩ := bind_inv e
  simp only at e
  split at e
  · rename_i hz
    cases e
    refine rb A F H S σ x _ _ k h1 fun A1 F1 H1 vs p1 s1 k1 r1 => ⟨by rw [r1.length]; exact hz, fun p hp => ?_⟩
    obtain ⟨s2, k2, r2⟩ := k1.newTup hp r1 hz
    exact post A1 _ _ _ p1 (s1.trans s2) k2 r2
  · cases e
theorem e_lst (hs : GA X es gs) : GE X (.List es pos) (gLst gs) := by
  obtain ⟨u, pb, rb⟩ := hs.ex
  refine ⟨_, pe_lst pb, fun A F H S σ d S' Q k e post => ?_⟩
  obtain ⟨⟨x, S1⟩, h1, e⟩ := bind_inv e
  simp only at e
  split at e
  · rename_i hz
    cases e
    refine rb A F H S σ x _ _ k h1 fun A1 F1 H1 vs p1 s1 k1 r1 => ⟨by rw [r1.length]; exact hz, fun p hp => ?_⟩
    obtain ⟨s2, k2, r2⟩ := k1.newList hp r1 hz
    exact post A1 _ _ _ p1 (s1.trans s2) k2 r2
  · cases e

/-! ### items, slices -/
def dIx : D → D → Option D
  | .list xs, .int i => atI xs i
  | .tuple xs, .int i => atI xs i
  | .str z, .int i => (atI z.cps.toList i).bind fun c => some (.str ⟨#[c]⟩)
  | _, _ => none
theorem rps_atI {K : PySem.W.Frag} {F : Hp} {vs : List V} {ds : List D} {i : Int} {d : D} (r : Rps K F vs ds) (h : atI ds i = some d) : ∃ v, atI vs i = some v ∧ Rp K F v d := by
  unfold atI at h ⊢
  rw [r.length]
  obtain ⟨j, h1, h2⟩ := bind_inv h
  rw [h1]
  exact r.get h2
def rIxAny (K : PySem.W.Frag) : R2 := fun x y H Q => rIxL K x y H Q ∨ rIxT K x y H Q ∨ rIxS x y H Q
theorem ix_any : IxR X (rIxAny X.K) := IxR.or ix_list (IxR.or ix_tup ix_str)
theorem one_len (c : Nat) : (⟨#[c]⟩ : Str).length ≤ sizeLine := by
  show 1 ≤ sizeLine
  decide
theorem rd_ix {K : PySem.W.Frag} : RdOp K (rIxAny K) dIx := by
  intro A F H S σ x y d e z Q k rx ry h post
  unfold dIx at h
  split at h
  · obtain ⟨a, xs, rfl, h1, h2, _⟩ := rp_list_inv rx
    cases rp_int_inv ry
    obtain ⟨v, e1, r⟩ := rps_atI h2 h
    exact .inl ⟨a, xs, _, v, rfl, rfl, SqL.of (k.sub.same _ _ h1), e1, post F H _ (SameT.refl F) k r⟩
  · obtain ⟨a, xs, rfl, h1, h2, _⟩ := rp_tup_inv rx
    cases rp_int_inv ry
    obtain ⟨v, e1, r⟩ := rps_atI h2 h
    exact .inr (.inl ⟨a, xs, _, v, rfl, rfl, sqT_same k.sub.same.t h1, e1, post F H _ (SameT.refl F) k r⟩)
  · obtain ⟨rfl, hz⟩ := rp_str_inv rx
    cases rp_int_inv ry
    obtain ⟨c, h1, h2⟩ := bind_inv h
    cases h2
    exact .inr (.inr ⟨_, _, c, rfl, rfl, hz, h1, post F H _ (SameT.refl F) k (.str (one_len c))⟩)
  · cases h
theorem e_ix (ha : GE X a ga) (hb : GE X b gb) (hs : PlainIx b := by exact fun _ _ => rfl) : GE X (.Subscript a b pos) (gBin dIx ga gb) := by
  obtain ⟨t, pa, ra⟩ := ha.ex
  obtain ⟨u, pb, rb⟩ := hb.ex
  exact ⟨_, pe_ix ix_any pa pb hs, rd_op rd_ix ra rb⟩
/-- a slice's part -/
structure GO (X : Cx) (e : Option Expr) (g : M (Option Int)) : Prop where
  ex : ∃ t, PO X e t ∧ ∀ A F H S σ o S' (Q : Option Int → Hp → Prop), Ok X.K A F H S σ → g S = some (o, S') → (∀ A' F' H', A <+: A' → SameT F F' → Ok X.K A' F' H' S' σ → Q o H') → t σ H Q
def gNo : M (Option Int) := fun S => some (none, S)
def gSo (g : M D) : M (Option Int) := fun S => (g S).bind fun p => match p.1 with
  | .int i => some (some i, p.2)
  | _ => none
theorem o_none : GO X none gNo := ⟨_, po_none, fun A F H S σ o S' Q k e post => by cases e; exact post A F H (List.prefix_refl _) (SameT.refl F) k⟩
theorem o_some (ha : GE X a ga) : GO X (some a) (gSo ga) := by
  obtain ⟨t, pa, ra⟩ := ha.ex
  refine ⟨_, po_some pa, fun A F H S σ o S' Q k e post => ?_⟩
  obtain ⟨⟨x, S1⟩, h1, e⟩ := bind_inv e
  refine ra A F H S σ x _ _ k h1 fun A1 F1 H1 v p1 s1 k1 r1 => ?_
  cases x <;> simp only at e <;> cases e
  cases rp_int_inv r1
  exact ⟨_, rfl, post A1 F1 H1 p1 s1 k1⟩
def cutL {α : Type} (xs : List α) (lo hi : Option Int) : List α := (xs.drop (HT.sIx xs.length 0 lo)).take (HT.sIx xs.length xs.length hi - HT.sIx xs.length 0 lo)
theorem cutL_le {α : Type} (xs : List α) (lo hi : Option Int) : (cutL xs lo hi).length ≤ xs.length := by
  unfold cutL
  rw [List.length_take, List.length_drop]
  omega
def dSl : D → Option Int → Option Int → Option D
  | .list xs, lo, hi => some (.list (cutL xs lo hi))
  | .tuple xs, lo, hi => some (.tuple (cutL xs lo hi))
  | .str z, lo, hi => some (.str (cutS z lo hi))
  | _, _, _ => none
def gSl (g : M D) (gl gh : M (Option Int)) : M D := fun S => (g S).bind fun p => (gl p.2).bind fun q => (gh q.2).bind fun r => (dSl p.1 q.1 r.1).bind fun z => some (z, r.2)
def rSlAny (K : PySem.W.Frag) : V → Option Int → Option Int → Hp → VK → Prop := fun x lo hi H Q => rSlL K x lo hi H Q ∨ rSlA K x lo hi H Q ∨ rSlS x lo hi H Q
theorem sl_any : SlR X (rSlAny X.K) := SlR.or sl_list (SlR.or sl_tupA sl_str)
theorem rps_cut {K : PySem.W.Frag} {F : Hp} {vs : List V} {ds : List D} (r : Rps K F vs ds) (lo hi : Option Int) : Rps K F (cutV vs lo hi) (cutL ds lo hi) := by
  unfold cutV cutL
  rw [r.length]
  exact (r.drop _).take _
theorem rd_sl {K : PySem.W.Frag} {A : List Addr} {F H : Hp} {S : Sx} {σ : L2.St} {x : V} {d z : D} {lo hi : Option Int} {Q : VK} (k : Ok K A F H S σ) (rx : Rp K F x d) (h : dSl d lo hi = some z)
    (post : ∀ F' H' v, SameT F F' → Ok K A F' H' S σ → Rp K F' v z → Q v H') : rSlAny K x lo hi H Q := by
  cases d <;> simp only [dSl] at h <;> cases h
  · obtain ⟨rfl, hz⟩ := rp_str_inv rx
    exact .inr (.inr ⟨_, rfl, hz, post F H _ (SameT.refl F) k (.str (Nat.le_trans (cutS_length _ _ _) hz))⟩)
  · obtain ⟨a, xs, rfl, h1, h2, h3⟩ := rp_list_inv rx
    refine .inl ⟨a, xs, rfl, SqL.of (k.sub.same _ _ h1), fun p hp => ?_⟩
    obtain ⟨s1, k1, r1⟩ := k.newList hp (rps_cut h2 lo hi) (Nat.le_trans (cutL_le _ _ _) h3)
    exact post _ _ _ s1 k1 r1
  · obtain ⟨a, xs, rfl, h1, h2, h3⟩ := rp_tup_inv rx
    refine .inr (.inl ⟨a, xs, rfl, sqT_same k.sub.same.t h1, fun hw => ?_, fun _ p hp => ?_⟩)
    · refine post F H _ (SameT.refl F) k ?_
      rename_i ds
      have : cutL ds lo hi = ds := by
        unfold cutL
        rw [← h2.length, hw.1, hw.2, h2.length]
        simp
      rw [this]
      exact rx
    · obtain ⟨s1, k1, r1⟩ := k.newTup hp (rps_cut h2 lo hi) (Nat.le_trans (cutL_le _ _ _) h3)
      exact post _ _ _ s1 k1 r1
theorem e_sl {lo hi : Option Expr} {p2 : Pos} {gl gh : M (Option Int)} (ha : GE X a ga) (hl : GO X lo gl) (hh : GO X hi gh) : GE X (.Subscript a (.Slice lo hi none p2) pos) (gSl ga gl gh) := by
  obtain ⟨t, pa, ra⟩ := ha.ex
  obtain ⟨_, pl, rl⟩ := hl.ex
  obtain ⟨_, ph, rh⟩ := hh.ex
  refine ⟨_, pe_slice sl_any pa pl ph, fun A F H S σ d S' Q k e post => ?_⟩
  obtain ⟨⟨x, S1⟩, h1, e⟩ := bind_inv e
  obtain ⟨⟨l, S2⟩, h2, e⟩ := bind_inv e
  obtain ⟨⟨u, S3⟩, h3, e⟩ := bind_inv e
  obtain ⟨z, h4, e⟩ := bind_inv e
  cases e
  refine ra A F H S σ x _ _ k h1 fun A1 F1 H1 v p1 s1 k1 r1 => rl A1 F1 H1 _ σ l _ _ k1 h2 fun A2 F2 H2 p2 s2 k2 => rh A2 F2 H2 _ σ u _ _ k2 h3 fun A3 F3 H3 p3 s3 k3 => ?_
  exact rd_sl k3 ((r1.mono s2 _ _).mono s3 _ _) h4 fun F4 H4 w s4 k4 r4 => post A3 F4 H4 w (p1.trans (p2.trans p3)) (s1.trans (s2.trans (s3.trans s4))) k4 r4
end
end Fu

set_option maxHeartbeats 4000000
namespace Fu
open PySem PySem.Spec PyProof.Rows L2
variable [TabsC]

/-! ### calls of built-ins by name -/
def RdC (K : PySem.W.Frag) (r : List V → Hp → VK → Prop) (f : List D → Option D) : Prop := ∀ A F H S σ xs ds z Q, Ok K A F H S σ → Rps K F xs ds → f ds = some z →
  (∀ F' H' v, SameT F F' → Ok K A F' H' S σ → Rp K F' v z → Q v H') → r xs H Q
def gCall (f : List D → Option D) (g : M (List D)) : M D := fun S => (g S).bind fun p => (f p.1).bind fun z => some (z, p.2)
section
variable {X : Cx} {pos p p2 : Pos} {x : Str} {e : Expr} {es : List Expr} {gs : M (List D)} {r : List V → Hp → VK → Prop} {f : List D → Option D} {id T : String}
theorem rd_callB {K : PySem.W.Frag} {t : TA} (hf : RdC K r f) (rs : RdA K t gs) : RdE K (tCB r t) (gCall f gs) := by
  intro A F H S σ d S' Q k h post
  obtain ⟨⟨ds, S1⟩, h1, h⟩ := bind_inv h
  obtain ⟨z, h2, h⟩ := bind_inv h
  cases h
  exact rs A F H S σ ds _ _ k h1 fun A1 F1 H1 vs p1 s1 k1 r1 => hf A1 F1 H1 _ σ vs ds _ Q k1 r1 h2 fun F2 H2 v s2 k2 r2 => post A1 F2 H2 v p1 (s1.trans s2) k2 r2
theorem e_callB (hc : CallR X (.builtin id) r) (hf : RdC X.K r f) (hm : X.mg x = none) (hv : bootBuiltins x = some (.builtin id)) (ha : GA X (e :: es) gs) (hg : Gl X x := by rfl) (hn : x ≠ "__name__" := by decide) (hdb : (x == ("__debug__" : Str)) = false := by decide)
    (he : starEach (e :: es) X.env = (false, eval e X.env) :: starEach es X.env := by rfl) (hpl : (backTo pos (starEach es X.env)).any (·.1) = false := by rfl) : GE X (.Call (.Name x p) (e :: es) [] pos) (gCall f gs) :=
  let ⟨_, pa, ra⟩ := ha.ex; ⟨_, pe_callB hc hg hm hv pa hn hdb he hpl, rd_callB hf ra⟩
theorem e_callTy (hc : CallR X (.type T) r) (hf : RdC X.K r f) (hm : X.mg x = none) (hv : bootBuiltins x = some (.type T)) (ha : GA X (e :: es) gs) (hg : Gl X x := by rfl) (hn : x ≠ "__name__" := by decide) (hdb : (x == ("__debug__" : Str)) = false := by decide)
    (he : starEach (e :: es) X.env = (false, eval e X.env) :: starEach es X.env := by rfl) (hpl : (backTo pos (starEach es X.env)).any (·.1) = false := by rfl) : GE X (.Call (.Name x p) (e :: es) [] pos) (gCall f gs) :=
  let ⟨_, pa, ra⟩ := ha.ex; ⟨_, pe_callTy hc hg hm hv pa hn hdb he hpl, rd_callB hf ra⟩
end

section
variable {K : PySem.W.Frag}
theorem rps1 {F : Hp} {vs : List V} {d : D} (r : Rps K F vs [d]) : ∃ v, vs = [v] ∧ Rp K F v d := by
  cases r with
  | cons h1 h2 => cases h2; exact ⟨_, rfl, h1⟩
theorem rps2 {F : Hp} {vs : List V} {d e : D} (r : Rps K F vs [d, e]) : ∃ v u, vs = [v, u] ∧ Rp K F v d ∧ Rp K F u e := by
  cases r with
  | cons h1 h2 => cases h2 with
    | cons h3 h4 => cases h4; exact ⟨_, _, rfl, h1, h3⟩
def dLen : List D → Option D
  | [.list xs] => some (.int xs.length)
  | [.tuple xs] => some (.int xs.length)
  | [.str x] => some (.int x.length)
  | _ => none
theorem rd_len : RdC K (fun xs H Q => ∃ x n, xs = [x] ∧ LenV K x H n ∧ Q (.int n) H) dLen := by
  intro A F H S σ xs ds z Q k r h post
  unfold dLen at h
  split at h <;> cases h
  · obtain ⟨v, rfl, rv⟩ := rps1 r
    obtain ⟨a, vs, rfl, h1, h2, _⟩ := rp_list_inv rv
    exact ⟨_, _, rfl, .inl ⟨vs, SqL.of (k.sub.same _ _ h1), h2.length.symm⟩, post F H _ (SameT.refl F) k (.int _)⟩
  · obtain ⟨v, rfl, rv⟩ := rps1 r
    obtain ⟨a, vs, rfl, h1, h2, _⟩ := rp_tup_inv rv
    exact ⟨_, _, rfl, .inr ⟨vs, sqT_same k.sub.same.t h1, h2.length.symm⟩, post F H _ (SameT.refl F) k (.int _)⟩
  · obtain ⟨v, rfl, rv⟩ := rps1 r
    obtain ⟨rfl, hz⟩ := rp_str_inv rv
    exact ⟨_, _, rfl, ⟨hz, rfl⟩, post F H _ (SameT.refl F) k (.int _)⟩
def dInt : List D → Option D
  | [.int i] => some (.int i)
  | [.bool b] => some (.int (if b then 1 else 0))
  | _ => none
def dAbs : List D → Option D
  | [.int i] => some (.int (if i < 0 then -i else i))
  | _ => none
theorem rd_abs : RdC K (fun xs H Q => ∃ i, xs = [.int i] ∧ Q (.int (if i < 0 then -i else i)) H) dAbs := by
  intro A F H S σ xs ds z Q k r h post
  unfold dAbs at h
  split at h <;> cases h
  obtain ⟨v, rfl, rv⟩ := rps1 r
  cases rp_int_inv rv
  exact ⟨_, rfl, post F H _ (SameT.refl F) k (.int _)⟩
def dMax2 : List D → Option D
  | [.int i, .int j] => some (.int (if j > i then j else i))
  | _ => none
def dMin2 : List D → Option D
  | [.int i, .int j] => some (.int (if j < i then j else i))
  | _ => none
theorem rd_min2 : RdC K (fun xs H Q => ∃ i j, xs = [.int i, .int j] ∧ Q (.int (if j < i then j else i)) H) dMin2 := by
  intro A F H S σ xs ds z Q k r h post
  unfold dMin2 at h
  split at h <;> cases h
  obtain ⟨v, u, rfl, rv, ru⟩ := rps2 r
  cases rp_int_inv rv; cases rp_int_inv ru
  exact ⟨_, _, rfl, post F H _ (SameT.refl F) k (.int _)⟩
def dList : List D → Option D
  | [.list xs] => some (.list xs)
  | [.tuple xs] => some (.list xs)
  | _ => none
def dTuple : List D → Option D
  | [.list xs] => some (.tuple xs)
  | [.tuple xs] => some (.tuple xs)
  | _ => none
theorem rd_tuple : RdC K (fun xs H Q => ∃ p ys, xs = [.ref p] ∧ ((SqL K H p ys ∧ ∀ l, H l = none → Q (.ref l) (upd H l (.tup ys))) ∨ (SqT K H p ys ∧ Q (.ref p) H))) dTuple := by
  intro A F H S σ xs ds z Q k r h post
  unfold dTuple at h
  split at h <;> cases h
  · obtain ⟨v, rfl, rv⟩ := rps1 r
    obtain ⟨a, vs, rfl, h1, h2, h3⟩ := rp_list_inv rv
    refine ⟨_, _, rfl, .inl ⟨SqL.of (k.sub.same _ _ h1), fun l hl => ?_⟩⟩
    obtain ⟨s1, k1, r1⟩ := k.newTup hl h2 h3
    exact post _ _ _ s1 k1 r1
  · obtain ⟨v, rfl, rv⟩ := rps1 r
    obtain ⟨a, vs, rfl, h1, h2, h3⟩ := rp_tup_inv rv
    exact ⟨_, _, rfl, .inr ⟨sqT_same k.sub.same.t h1, post F H _ (SameT.refl F) k rv⟩⟩
/-- all items are truths -/
def allBools : List D → Option (List Bool)
  | [] => some []
  | .bool b :: ds => (allBools ds).bind fun bs => some (b :: bs)
  | _ => none
theorem allBools_map : ∀ {ds : List D} {bs : List Bool}, allBools ds = some bs → ds = bs.map .bool
  | [], _, h => by cases h; rfl
  | .bool b :: ds, _, h => by
    obtain ⟨bs, h1, h2⟩ := bind_inv h
    cases h2
    rw [List.map_cons, allBools_map h1]
  | .none :: _, _, h => by simp [allBools] at h
  | .int _ :: _, _, h => by simp [allBools] at h
  | .str _ :: _, _, h => by simp [allBools] at h
  | .list _ :: _, _, h => by simp [allBools] at h
  | .tuple _ :: _, _, h => by simp [allBools] at h
  | .dict _ :: _, _, h => by simp [allBools] at h
theorem rps_bools {F : Hp} : ∀ {vs : List V} {bs : List Bool}, Rps K F vs (bs.map .bool) → vs = bs.map V.bl
  | _, [], h => by cases h; rfl
  | _, b :: bs, h => by
    cases h with
    | cons h1 h2 => rw [rp_bool_inv h1, rps_bools h2]; rfl
def dAll : List D → Option D
  | [.list xs] => (allBools xs).bind fun bs => some (.bool (bs.all id))
  | _ => none
theorem rd_all : RdC K (rAll K) dAll := by
  intro A F H S σ xs ds z Q k r h post
  unfold dAll at h
  split at h
  · obtain ⟨bs, h1, h2⟩ := bind_inv h
    cases h2
    obtain ⟨v, rfl, rv⟩ := rps1 r
    obtain ⟨a, vs, rfl, g1, g2, g3⟩ := rp_list_inv rv
    rw [allBools_map h1] at g2
    rw [rps_bools g2] at g1
    exact ⟨a, bs, rfl, SqL.of (k.sub.same _ _ g1), post F H _ (SameT.refl F) k (.bl _)⟩
  · cases h
end
section
variable {X : Cx} {pos p p2 : Pos} {e : Expr} {es : List Expr} {gs : M (List D)}
theorem e_len (hm : X.mg "len" = none) (ha : GA X [e] gs) (hg : Gl X "len" := by rfl) (he : starEach [e] X.env = (false, eval e X.env) :: starEach [] X.env := by rfl) : GE X (.Call (.Name "len" p) [e] [] pos) (gCall dLen gs) :=
  e_callB call_len rd_len hm PySem.boot_len ha hg (he := he) (hpl := by rfl)
theorem e_abs (hm : X.mg "abs" = none) (ha : GA X [e] gs) (hg : Gl X "abs" := by rfl) (he : starEach [e] X.env = (false, eval e X.env) :: starEach [] X.env := by rfl) : GE X (.Call (.Name "abs" p) [e] [] pos) (gCall dAbs gs) :=
  e_callB call_abs rd_abs hm (by decide +kernel) ha hg (he := he) (hpl := by rfl)
theorem e_tuple (hm : X.mg "tuple" = none) (ha : GA X [e] gs) (hg : Gl X "tuple" := by rfl) (he : starEach [e] X.env = (false, eval e X.env) :: starEach [] X.env := by rfl) : GE X (.Call (.Name "tuple" p) [e] [] pos) (gCall dTuple gs) :=
  e_callTy call_tuple_of rd_tuple hm (by decide +kernel) ha hg (he := he) (hpl := by rfl)
theorem e_all (hm : X.mg "all" = none) (ha : GA X [e] gs) (hc : X.calm = true := by rfl) (hg : Gl X "all" := by rfl) (he : starEach [e] X.env = (false, eval e X.env) :: starEach [] X.env := by rfl) : GE X (.Call (.Name "all" p) [e] [] pos) (gCall dAll gs) :=
  e_callB (cr_all hc) rd_all hm (by decide +kernel) ha hg (he := he) (hpl := by rfl)
variable {e2 : Expr}
theorem e_min2 (hm : X.mg "min" = none) (ha : GA X [e, e2] gs) (hc : X.calm = true := by rfl) (hg : Gl X "min" := by rfl) (he : starEach [e, e2] X.env = (false, eval e X.env) :: starEach [e2] X.env := by rfl) (hpl : (backTo pos (starEach [e2] X.env)).any (·.1) = false := by rfl) :
    GE X (.Call (.Name "min" p) [e, e2] [] pos) (gCall dMin2 gs) := e_callB (call_min2 hc) rd_min2 hm (by decide +kernel) ha hg (he := he) (hpl := hpl)
end

/-! ### isinstance -/
def dTy : D → String
  | .none => "NoneType"
  | .bool _ => "bool"
  | .int _ => "int"
  | .str _ => "str"
  | .list _ => "list"
  | .tuple _ => "tuple"
  | .dict _ => "dict"
def isT (T : String) (d : D) : Bool := (dTy d == T) || (T == "int" && dTy d == "bool")
theorem kit_int (d : D) : kitB (dTy d) "int" = some (isT "int" d) := by cases d <;> simp only [dTy, isT] <;> decide +kernel
theorem kit_bool (d : D) : kitB (dTy d) "bool" = some (isT "bool" d) := by cases d <;> simp only [dTy, isT] <;> decide +kernel
theorem kit_list (d : D) : kitB (dTy d) "list" = some (isT "list" d) := by cases d <;> simp only [dTy, isT] <;> decide +kernel
theorem kit_tuple (d : D) : kitB (dTy d) "tuple" = some (isT "tuple" d) := by cases d <;> simp only [dTy, isT] <;> decide +kernel
def TyE (K : PySem.W.Frag) (H : Hp) (v : V) (t : Value) : Prop := TyX K H v t ∨ ∃ a, v = .ref a ∧ t = .type "dict" ∧ H a = some (dictO a)
theorem kit_ofE {X : Cx} {pins : List (Addr × Obj)} {σ : L2.St} {H : Hp} {s : Shared} {x : V} {u t : Value} (I : Inv X pins σ H s) (r : RelV x u) (ty : TyE X.K H x t) : ∃ P, PySem.W.KitX X.K u t P ∧ P s.heap ∧ u ≠ .builtin "__main__.__loader__#opaque" := by
  rcases ty with ty | ⟨a, rfl, rfl, h⟩
  · exact kit_of I r ty
  · cases r
    exact ⟨_, PySem.W.kitx_dict, (show ObjOk X.prog X.w H s.heap a (dictO a) from I.hok a _ h).1, (fun z => nomatch z)⟩
def rIsiE (K : PySem.W.Frag) : List V → Hp → VK → Prop := fun xs H Q => ∃ x c t u b, xs = [x, c] ∧ ClsV c u ∧ TyE K H x t ∧ PySem.W.kitOne K t u = some b ∧ Q (.bl b) H
theorem call_isiE {X : Cx} : CallR X (.builtin "isinstance") (rIsiE X.K) := by
  intro pins s σ H xs us Q I r ⟨x, c, t, u, b, e0, k, ty, e, q⟩
  subst e0
  obtain ⟨u1, u2, rfl, r1, r2⟩ := L2.vals2 r
  have e2 := ClsV.eq k r2
  subst e2
  obtain ⟨P, Z, p, hx⟩ := kit_ofE I r1 ty
  exact PySem.W.kia_one Z I.kIn p e hx fun tk => ⟨.bl b, H, I.tok tk, rfl, q⟩
def rIsiTE (K : PySem.W.Frag) : List V → Hp → VK → Prop := fun xs H Q => ∃ x tp cs t us b, xs = [x, .ref tp] ∧ H tp = some (.tup cs) ∧ Paired ClsV cs us ∧ TyE K H x t ∧ PySem.W.kitAny K t us = some b ∧ Q (.bl b) H
theorem cls_vals : ∀ {cs : List V} {us its : List Value}, Paired ClsV cs us → Vals cs its → its = us
  | [], _, _, .nil, .nil => rfl
  | _ :: _, _, _, .cons h1 h2, .cons g1 g2 => by rw [cls_vals h2 g2, ClsV.eq h1 g1]
theorem call_isiTE {X : Cx} : CallR X (.builtin "isinstance") (rIsiTE X.K) := by
  intro pins s σ H xs us Q I r ⟨x, tp, cs, t, ws, b, e0, hT, k, ty, e, q⟩
  subst e0
  obtain ⟨u1, u2, rfl, r1, r2⟩ := L2.vals2 r
  cases r2
  obtain ⟨P, Z, p, hx⟩ := kit_ofE I r1 ty
  obtain ⟨_, its, rv, ot, t1, t2, n, t3⟩ := (show ObjOk X.prog X.w H s.heap tp (.tup cs) from I.hok tp _ hT)
  have hi := cls_vals k rv
  subst hi
  obtain ⟨oc, od, oda, osl⟩ := ot
  dsimp only at t2 t3
  subst t2 t3
  exact PySem.W.kia_tup Z I.kIn p t1 e hx fun tk => ⟨.bl b, H, I.tok tk, rfl, q⟩
theorem rp_ty {K : PySem.W.Frag} {F H : Hp} {v : V} {d : D} (s : SameT F H) (r : Rp K F v d) : TyE K H v (.type (dTy d)) := by
  cases r with
  | non => exact .inl (.base .non)
  | bl b => exact .inl (.base (.bl b))
  | int i => exact .inl (.base (.int i))
  | str _ => exact .inl (.base (.str _))
  | lst h1 _ _ => exact .inl (.base (.lst (s.old _ _ h1 trivial)))
  | tup h1 _ _ => exact .inl (.base (.tup (s.old _ _ h1 trivial)))
  | dcT h _ => exact .inl (.base (.dT (s.old _ _ h trivial)))
  | dct h _ _ =>
    rcases h with ⟨es, h⟩ | ⟨es, h⟩ | h
    · exact .inl (.base (.dK (s.old _ _ h trivial)))
    · exact .inl (.base (.dT (s.old _ _ h trivial)))
    · exact .inr ⟨_, rfl, rfl, s.old _ _ h trivial⟩
section
variable {X : Cx} {pos p p2 p3 p4 : Pos} {e : Expr} {g : M D} {x y : Str} {T U : String}
def gIsi (T : String) (g : M D) : M D := fun S => (g S).bind fun p => some (.bool (isT T p.1), p.2)
def gIsi2 (T U : String) (g : M D) : M D := fun S => (g S).bind fun p => some (.bool (isT T p.1 || isT U p.1), p.2)
theorem e_isi (hm : X.mg "isinstance" = none) (hmx : X.mg x = none) (hv : bootBuiltins x = some (.type T)) (kt : ∀ d, kitB (dTy d) T = some (isT T d)) (ha : GE X e g) (hg : Gl X "isinstance" := by rfl) (hgx : Gl X x := by rfl)
    (hnx : x ≠ "__name__" := by decide) (hdx : (x == ("__debug__" : Str)) = false := by decide)
    (he : starEach [e, .Name x p2] X.env = (false, eval e X.env) :: starEach [.Name x p2] X.env := by rfl) (he2 : starEach [.Name x p2] X.env = (false, eval (.Name x p2) X.env) :: starEach [] X.env := by rfl)
    (hpl : (backTo pos (starEach [.Name x p2] X.env)).any (·.1) = false := by rfl) :
    GE X (.Call (.Name "isinstance" p) [e, .Name x p2] [] pos) (gIsi T g) := by
  obtain ⟨t, pa, ra⟩ := ha.ex
  refine ⟨_, pe_callB call_isiE hg hm (by decide +kernel) (pa_cons pa (pa_cons (pe_bltn (v := .ty T) hgx hmx hv rfl hnx hdx) pa_nil he2) he) (by decide) (by decide) he hpl, fun A F H S σ d S' Q k h post => ?_⟩
  obtain ⟨⟨d1, S1⟩, h1, h⟩ := bind_inv h
  cases h
  refine ra A F H S σ d1 _ _ k h1 fun A1 F1 H1 v p1 s1 k1 r1 => ?_
  exact ⟨v, .ty T, _, _, _, rfl, .ty T, rp_ty k1.sub.same.t r1, kit_ty (kt d1), post A1 F1 H1 _ p1 s1 k1 (.bl _)⟩
theorem e_isi2 {kx} (hm : X.mg "isinstance" = none) (hmx : X.mg x = none) (hv : bootBuiltins x = some (.type T)) (kt : ∀ d, kitB (dTy d) T = some (isT T d)) (hmy : X.mg y = none) (hw : bootBuiltins y = some (.type U)) (ku : ∀ d, kitB (dTy d) U = some (isT U d))
    (ha : GE X e g) (hg : Gl X "isinstance" := by rfl) (hgx : Gl X x := by rfl) (hgy : Gl X y := by rfl)
    (hnx : x ≠ "__name__" := by decide) (hdx : (x == ("__debug__" : Str)) = false := by decide) (hny : y ≠ "__name__" := by decide) (hdy : (y == ("__debug__" : Str)) = false := by decide)
    (he : starEach [e, .Tuple [.Name x p2, .Name y p3] kx p4] X.env = (false, eval e X.env) :: starEach [.Tuple [.Name x p2, .Name y p3] kx p4] X.env := by rfl)
    (he2 : starEach [.Tuple [.Name x p2, .Name y p3] kx p4] X.env = (false, eval (.Tuple [.Name x p2, .Name y p3] kx p4) X.env) :: starEach [] X.env := by rfl)
    (he3 : starEach [.Name x p2, .Name y p3] X.env = (false, eval (.Name x p2) X.env) :: starEach [.Name y p3] X.env := by rfl)
    (he4 : starEach [.Name y p3] X.env = (false, eval (.Name y p3) X.env) :: starEach [] X.env := by rfl)
    (hpl : (backTo pos (starEach [.Tuple [.Name x p2, .Name y p3] kx p4] X.env)).any (·.1) = false := by rfl) :
    GE X (.Call (.Name "isinstance" p) [e, .Tuple [.Name x p2, .Name y p3] kx p4] [] pos) (gIsi2 T U g) := by
  obtain ⟨t, pa, ra⟩ := ha.ex
  refine ⟨_, pe_callB call_isiTE hg hm (by decide +kernel) (pa_cons pa (pa_cons (pe_tup (pa_cons (pe_bltn (v := .ty T) hgx hmx hv rfl hnx hdx) (pa_cons (pe_bltn (v := .ty U) hgy hmy hw rfl hny hdy) pa_nil he4) he3)) pa_nil he2) he) (by decide) (by decide) he hpl, fun A F H S σ d S' Q k h post => ?_⟩
  obtain ⟨⟨d1, S1⟩, h1, h⟩ := bind_inv h
  cases h
  refine ra A F H S σ d1 _ _ k h1 fun A1 F1 H1 v p1 s1 k1 r1 => ?_
  refine ⟨by show 2 ≤ sizeLine; decide, fun q hq => ?_⟩
  have k2 := k1.laid (o := .tup [.ty T, .ty U]) hq
  have s2 : SameT F1 (upd F1 q (.tup [.ty T, .ty U])) := same_upd (k1.sub.none hq)
  refine ⟨v, q, _, _, _, _, rfl, upd_same, .cons (.ty T) (.cons (.ty U) .nil), rp_ty k2.sub.same.t (r1.mono s2 _ _), ?_, post A1 _ _ _ p1 (s1.trans s2) k2 (.bl _)⟩
  refine kitAny_cons (kit_ty (kt d1)) (fun e1 => ?_) (fun e1 => by rw [e1]; rfl)
  rw [e1]
  exact kitAny_cons (kit_ty (ku d1)) (fun e2 => by rw [e2]; exact kitAny_nil) (fun e2 => by rw [e2]; rfl)
end

/-! ### the calls of the text's own defs -/
/-- a def that writes nothing that was there: its value by data -/
def spF (K : PySem.W.Frag) (n : Nat) (f : List D → Option D) : Sp := fun vs H Q _ => ∃ ds z, ds.length = n ∧ Rps K H vs ds ∧ f ds = some z ∧ LamX.Tabs TabsC.T H ∧ ∀ H' v, SameT H H' → Rp K H' v z → Q v H'
theorem spF_len {K : PySem.W.Frag} {n : Nat} {f : List D → Option D} {ps : List Str} (h : ps.length = n) : ∀ vs H Q E, spF K n f vs H Q E → vs.length = ps.length := by
  intro vs H Q E ⟨ds, z, e, r, _⟩
  rw [r.length, e, h]
theorem same_mix {G H G' : Hp} (lost : ∀ b o, H b = some o → G b = none → G' b = none) : Same G' (mixH G H G') := fun b o e => by
  cases q : G b with
  | some u => rw [mix_held q]; exact e
  | none =>
    cases r : H b with
    | none => rw [mix_free r]; exact e
    | some u => rw [lost b u r q] at e; cases e
theorem Ok.mix {K : PySem.W.Frag} {A : List Addr} {F H G' : Hp} {S : Sx} {σ : L2.St} (k : Ok K A F H S σ) (s : SameT F G') (lost : ∀ b o, H b = some o → F b = none → G' b = none) : Ok K A G' (mixH F H G') S σ := by
  refine k.grow ⟨same_mix lost, fun b o e n => ?_⟩ s (fun a ha o e => ?_) fun a ha e => ?_
  · cases q : F b with
    | some u => rw [mix_held q, n] at e; cases e
    | none =>
      cases r : H b with
      | none => rw [mix_free r, n] at e; cases e
      | some u => rw [mix_lost q r] at e; cases e; exact k.sub.loose b _ r q
  · cases q : F a with
    | some u =>
      rw [mix_held q]
      have e2 := k.sub.same a u q
      rw [e] at e2; cases e2
      obtain ⟨_, ho, lo⟩ := k.trk a ha
      rw [e] at ho; cases ho
      exact s.old a _ q lo.nt
    | none => exact mix_lost q e
  · obtain ⟨o, ho, _⟩ := k.trk a ha
    exact lost a o ho e
def gCallF (n : Nat) (f : List D → Option D) (g : M (List D)) : M D := fun S => (g S).bind fun p => if p.1.length = n then (f p.1).bind fun z => some (z, p.2) else none
section
variable {X : Cx} {pos p p2 : Pos} {x : Str} {e : Expr} {es : List Expr} {gs : M (List D)} {f : List D → Option D} {CX : CXT} {k n : Nat} {fa : Addr} {fd : FuncData} {ps : List Str} {E : XK}
theorem e_call (F : FnOk X.prog X.w X.K X.mg X.base CX k fa fd ps (spF X.K n f)) (hr : Room k X.A) (hm : X.mg x = some (.ref fa)) (hk : PySem.W.keepIn X.K (.ref fa) = true) (hb : L2.Binds X.K fd ps []) (hx : Passes CX X E) (ha : GA X (e :: es) gs)
    (hg : Gl X x := by rfl) (hdb : (x == ("__debug__" : Str)) = false := by decide) (he : starEach (e :: es) X.env = (false, eval e X.env) :: starEach es X.env := by rfl) (hpl : (backTo pos (starEach es X.env)).any (·.1) = false := by rfl) :
    GE X (.Call (.Name x p) (e :: es) [] pos) (gCallF n f gs) := by
  obtain ⟨t, pa, ra⟩ := ha.ex
  refine ⟨_, pe_callF F hr hg hm hk hb .nil hx pa hdb he hpl, fun A F H S σ d S' Q k h post => ?_⟩
  obtain ⟨⟨ds, S1⟩, h1, h⟩ := bind_inv h
  simp only at h
  split at h
  · rename_i hn
    obtain ⟨z, h2, h⟩ := bind_inv h
    cases h
    refine ra A F H S σ ds _ _ k h1 fun A1 F1 H1 vs p1 s1 k1 r1 => ⟨F1, k1.sub, ds, _, hn, by rw [List.append_nil]; exact r1, h2, k1.tab, fun G' v sm rv => ⟨fun b xs q => sm.old b _ q trivial, fun lost => ?_⟩⟩
    exact post A1 G' _ v p1 (s1.trans sm) (k1.mix sm lost) rv
  · cases h
/-- a def that writes one list that is handed in, the first argument -/
def spIO (K : PySem.W.Frag) (n : Nat) (f : List D → List D → Option (D × List D)) : Sp := fun vs H Q _ => ∃ (a : Addr) (xs : List V) (rest : List V) (F : Hp) (cs ds : List D) (r : D) (cs' : List D), vs = .ref a :: rest ∧ F a = none ∧ H = upd F a (.lst xs) ∧ cs.length ≤ sizeLine ∧
  Rps K F xs cs ∧ Rps K F rest ds ∧ ds.length = n ∧ f cs ds = some (r, cs') ∧ LamX.Tabs TabsC.T F ∧ ∀ F' xs' v, SameT F F' → F' a = none → Rps K F' xs' cs' → cs'.length ≤ sizeLine → Rp K F' v r → Q v (upd F' a (.lst xs'))
theorem spIO_len {K : PySem.W.Frag} {n : Nat} {f : List D → List D → Option (D × List D)} {ps : List Str} (h : ps.length = n + 1) : ∀ vs H Q E, spIO K n f vs H Q E → vs.length = ps.length := by
  intro vs H Q E ⟨a, xs, rest, F, cs, ds, r, cs', e, _, _, _, _, hr, hn, _⟩
  rw [e, List.length_cons, hr.length, hn, h]
def gIO (i n : Nat) (f : List D → List D → Option (D × List D)) (g : M (List D)) : M D := fun S => match S.sl[i]? with
  | some (some (.own j)) => (g S).bind fun p => match p.2.os[j]? with
    | some (some (.lst cs)) => if p.1.length = n then (f cs p.1).bind fun z => some (z.1, ⟨p.2.sl, p.2.os.set j (some (.lst z.2))⟩) else none
    | _ => none
  | _ => none
theorem prefix_at {α : Type} {A B : List α} {j : Nat} {a : α} (p : A <+: B) (h : A[j]? = some a) : B[j]? = some a := by
  obtain ⟨C, rfl⟩ := p
  rw [List.getElem?_append_left (List.getElem?_eq_some_iff.mp h).1]; exact h
theorem e_callIO {f : List D → List D → Option (D × List D)} {y : Str} {py : Pos} (i : Nat) (F : FnOk X.prog X.w X.K X.mg X.base CX k fa fd ps (spIO X.K n f)) (hr : Room k X.A) (hm : X.mg x = some (.ref fa)) (hk : PySem.W.keepIn X.K (.ref fa) = true) (hb : L2.Binds X.K fd ps []) (hx : Passes CX X E) (ha : GA X es gs)
    (hN : X.N[i]? = some y := by rfl) (hv : Vis X.env.scope y := by first | exact Or.inl rfl | exact Or.inr (Or.inl rfl) | exact Or.inr (Or.inr rfl)) (hdy : (y == ("__debug__" : Str)) = false := by decide) (hcd : (y == ("__classdict__" : Str)) = false := by decide)
    (hg : Gl X x := by rfl) (hdb : (x == ("__debug__" : Str)) = false := by decide) (he : starEach (.Name y py :: es) X.env = (false, eval (.Name y py) X.env) :: starEach es X.env := by rfl) (hpl : (backTo pos (starEach es X.env)).any (·.1) = false := by rfl) :
    GE X (.Call (.Name x p) (.Name y py :: es) [] pos) (gIO i n f gs) := by
  obtain ⟨t, pa, ra⟩ := ha.ex
  refine ⟨_, pe_callF F hr hg hm hk hb .nil hx (pa_cons (pe_var hN hv hdy hcd) pa he) hdb he hpl, fun A F H S σ d S' Q k h post => ?_⟩
  unfold gIO at h
  split at h
  · rename_i j ej
    obtain ⟨⟨ds, S1⟩, h1, h⟩ := bind_inv h
    simp only at h
    split at h
    · rename_i cs ec
      split at h
      · rename_i hn
        obtain ⟨⟨r, cs'⟩, h2, h⟩ := bind_inv h
        cases h
        obtain ⟨a, ea, ev⟩ := k.oslot i j ej
        refine ⟨_, ev, ra A F H S σ ds S1 _ k h1 fun A1 F1 H1 vs p1 s1 k1 r1 => ?_⟩
        obtain ⟨a', ea', fa', xs, hxs, rxs, hz⟩ := k1.cell j _ ec
        rw [prefix_at p1 ea] at ea'; cases ea'
        have sub1 : Sub (upd F1 a (.lst xs)) H1 := ⟨fun b u q => by
            by_cases hb : b = a
            · subst hb; rw [upd_same] at q; cases q; exact hxs
            · rw [upd_ne hb] at q; exact k1.sub.same b u q, fun b u q n => by
            by_cases hb : b = a
            · subst hb; rw [upd_same] at n; cases n
            · rw [upd_ne hb] at n; exact k1.sub.loose b u q n⟩
        refine ⟨upd F1 a (.lst xs), sub1, a, xs, vs, F1, cs, ds, r, cs', by rw [List.append_nil], fa', rfl, hz, rxs, r1, hn, h2, k1.tab, fun F' xs' v sm fa2 rx hz' rv => ⟨fun b ys q => ?_, fun lost => ?_⟩⟩
        · by_cases hb : b = a
          · subst hb; rw [upd_same] at q; cases q
          · rw [upd_ne hb] at q ⊢; exact sm.old b _ q trivial
        · have lostF : ∀ b o, b ≠ a → H1 b = some o → F1 b = none → F' b = none := fun b o hb ho hf => by
            have := lost b o ho (by rw [upd_ne hb]; exact hf)
            rwa [upd_ne hb] at this
          have ma : mixH (upd F1 a (.lst xs)) H1 (upd F' a (.lst xs')) a = some (.lst xs') := by rw [mix_held upd_same, upd_same]
          have mb : ∀ b, b ≠ a → mixH (upd F1 a (.lst xs)) H1 (upd F' a (.lst xs')) b = mixH F1 H1 F' b := fun b hb => by
            unfold mixH
            rw [upd_ne hb, upd_ne hb]
          have km : Ok X.K A1 F' (upd (mixH F1 H1 F') a (.lst xs')) ⟨S1.sl, S1.os.set j (some (.lst cs'))⟩ σ := by
            have e1 : Ok X.K A1 F' (mixH F1 H1 F') S1 σ := by
              refine k1.mix sm fun b o ho hf => ?_
              by_cases hb : b = a
              · subst hb; exact fa2
              · exact lostF b o hb ho hf
            exact e1.cellSet ec (prefix_at p1 ea) trivial ⟨xs', upd_same, rx, hz'⟩
          have em : mixH (upd F1 a (.lst xs)) H1 (upd F' a (.lst xs')) = upd (mixH F1 H1 F') a (.lst xs') := by
            funext b
            by_cases hb : b = a
            · subst hb; rw [ma, upd_same]
            · rw [mb b hb, upd_ne hb]
          rw [em]
          exact post A1 F' _ v p1 (s1.trans sm) km rv
      · cases h
    · cases h
  · cases h
end
end Fu

set_option maxHeartbeats 4000000
namespace Fu
open PySem PySem.Spec PyProof.Rows L2 RZ
variable [TabsC]

/-! ### what is walked -/
/-- J yields the data ds, one by one, wherever F stands -/
structure Walk (K : PySem.W.Frag) (F : Hp) (J : It) (ds : List D) : Prop where
  stop : ∀ i H, SameT F H → ds.length ≤ i → J.stop i H
  go : ∀ i H, SameT F H → i < ds.length → J.go i H
  yld : ∀ (i : Nat) d H x H', SameT F H → ds[i]? = some d → J.yld i H x H' → (H' = H ∧ Rp K F x d) ∨ ∃ T vs es, x = .ref T ∧ H T = none ∧ H' = upd H T (.tup vs) ∧ d = .tuple es ∧ Rps K F vs es ∧ es.length ≤ sizeLine
def RdI (K : PySem.W.Frag) (t : TI) (g : M (List D)) : Prop := ∀ A F H S σ ds S' (R : It → Hp → Prop), Ok K A F H S σ → g S = some (ds, S') →
  (∀ A' F' H' J, A <+: A' → SameT F F' → Ok K A' F' H' S' σ → Walk K F' J ds → ds.length ≤ sizeLine → R J H') → t σ H R
structure GI (X : Cx) (tg iter : Expr) (g : M (List D)) : Prop where
  ex : ∃ t, PI X tg iter t ∧ RdI X.K t g
/-- .. of numbers alone: they stand in any heap -/
structure GI0 (X : Cx) (tg iter : Expr) (g : M (List D)) : Prop where
  ex : ∃ t, PI X tg iter t ∧ ∀ A F H S σ ds S' (R : It → Hp → Prop), Ok X.K A F H S σ → g S = some (ds, S') →
    (∀ A' F' H' J, A <+: A' → SameT F F' → Ok X.K A' F' H' S' σ → Walk X.K (fun _ => none) J ds → R J H') → t σ H R
theorem PI.or {X : Cx} {tg iter : Expr} {t u : TI} (h1 : PI X tg iter t) (h2 : PI X tg iter u) : PI X tg iter (fun σ H R => t σ H R ∨ u σ H R) :=
  ⟨fun pins s σ H R I h => h.elim (h1.run pins s σ H R I) (h2.run pins s σ H R I)⟩
section
variable {K : PySem.W.Frag} {F : Hp}
theorem walk_list {a : Addr} {vs : List V} {ds : List D} (h : F a = some (.lst vs)) (r : Rps K F vs ds) : Walk K F (Itl K a) ds where
  stop := fun i H s hi => ⟨vs, SqL.of (s.old _ _ h trivial), by rw [r.length]; exact hi⟩
  go := fun i H s hi => by
    obtain ⟨v, e, _⟩ := r.get (List.getElem?_eq_getElem hi)
    exact ⟨vs, v, SqL.of (s.old _ _ h trivial), e⟩
  yld := fun i d H x H' s hd y => by
    obtain ⟨e, y⟩ := y
    obtain ⟨v, ev, rv⟩ := r.get hd
    have := y vs (SqL.of (s.old _ _ h trivial))
    rw [ev] at this; cases this
    exact .inl ⟨e, rv⟩
theorem walk_tup {a : Addr} {vs : List V} {ds : List D} (h : SqT K F a vs) (r : Rps K F vs ds) : Walk K F (Itt K a) ds where
  stop := fun i H s hi => ⟨vs, sqT_same s h, by rw [r.length]; exact hi⟩
  go := fun i H s hi => by
    obtain ⟨v, e, _⟩ := r.get (List.getElem?_eq_getElem hi)
    exact ⟨vs, v, sqT_same s h, e⟩
  yld := fun i d H x H' s hd y => by
    obtain ⟨e, y⟩ := y
    obtain ⟨v, ev, rv⟩ := r.get hd
    have := y vs (sqT_same s h)
    rw [ev] at this; cases this
    exact .inl ⟨e, rv⟩
def chars (x : Str) : List D := x.cps.toList.map fun c => .str ⟨#[c]⟩
theorem walk_str (x : Str) : Walk K F (Its x) (chars x) where
  stop := fun i H s hi => by
    have : x.cps.size ≤ i := by simpa [chars] using hi
    exact this
  go := fun i H s hi => by
    have : i < x.cps.size := by simpa [chars] using hi
    exact this
  yld := fun i d H v H' s hd y => by
    obtain ⟨e, c, hc, rfl⟩ := y
    have h2 : x.cps.toList[i]? = some c := by rw [Array.getElem?_toList]; exact hc
    unfold chars at hd
    rw [List.getElem?_map, h2] at hd
    cases hd
    exact .inl ⟨e, .str (one_len c)⟩
def rng (lo : Int) (n : Nat) : List D := (List.range n).map fun i : Nat => .int (lo + (i : Int))
theorem walk_range (lo : Int) (n : Nat) : Walk K F (Itr lo n) (rng lo n) where
  stop := fun i H s hi => by
    have : n ≤ i := by simpa [rng] using hi
    exact this
  go := fun i H s hi => by
    have : i < n := by simpa [rng] using hi
    exact this
  yld := fun i d H v H' s hd y => by
    obtain ⟨e, rfl⟩ := y
    unfold rng at hd
    rw [List.getElem?_map] at hd
    obtain ⟨j, hj, rfl⟩ := Option.map_eq_some_iff.mp hd
    rw [List.getElem?_range (by
      have := (List.getElem?_eq_some_iff.mp hj).1
      simpa using this)] at hj
    cases hj
    exact .inl ⟨e, .int _⟩
def zipD : List D → List D → List D
  | x :: xs, y :: ys => .tuple [x, y] :: zipD xs ys
  | _, _ => []
theorem zipD_eq : ∀ xs ys : List D, zipD xs ys = (xs.zip ys).map fun p => .tuple [p.1, p.2]
  | x :: xs, y :: ys => by rw [zipD, zipD_eq xs ys]; rfl
  | [], _ => by simp [zipD]
  | _ :: _, [] => by simp [zipD]
theorem walk_zip {a b : Addr} {vs us : List V} {xs ys : List D} (h : F a = some (.lst vs)) (g : F b = some (.lst us)) (r : Rps K F vs xs) (q : Rps K F us ys) : Walk K F (Itz K a b) (zipD xs ys) where
  stop := fun i H s hi => by
    refine ⟨vs, us, SqL.of (s.old _ _ h trivial), SqL.of (s.old _ _ g trivial), ?_⟩
    rw [zipD_eq, List.length_map, List.length_zip] at hi
    rw [r.length, q.length]
    omega
  go := fun i H s hi => by
    rw [zipD_eq, List.length_map, List.length_zip] at hi
    obtain ⟨v, e, _⟩ := r.get (List.getElem?_eq_getElem (show i < xs.length by omega))
    obtain ⟨u, e2, _⟩ := q.get (List.getElem?_eq_getElem (show i < ys.length by omega))
    exact ⟨vs, us, v, u, SqL.of (s.old _ _ h trivial), SqL.of (s.old _ _ g trivial), e, e2⟩
  yld := fun i d H x H' s hd y => by
    obtain ⟨T, v, u, rfl, hT, rfl, e1, e2⟩ := y
    rw [zipD_eq, List.getElem?_map] at hd
    obtain ⟨⟨d1, d2⟩, hz, rfl⟩ := Option.map_eq_some_iff.mp hd
    rw [List.getElem?_zip_eq_some] at hz
    obtain ⟨v', g1, r1⟩ := r.get hz.1
    obtain ⟨u', g2, r2⟩ := q.get hz.2
    have f1 := e1 vs (SqL.of (s.old _ _ h trivial))
    have f2 := e2 us (SqL.of (s.old _ _ g trivial))
    rw [g1] at f1; cases f1
    rw [g2] at f2; cases f2
    exact .inr ⟨T, _, _, rfl, hT, rfl, rfl, .cons r1 (.cons r2 .nil), by show 2 ≤ sizeLine; decide⟩
end
def itemsOf : D → Option (List D)
  | .list xs => some xs
  | .tuple xs => some xs
  | .str x => some (chars x)
  | _ => none
/-- the items of a list, a tuple, a text -/
def gItems (g : M D) : M (List D) := fun S => (g S).bind fun p => (itemsOf p.1).bind fun xs => some (xs, p.2)
section
variable {X : Cx} {tg e e2 e3 : Expr} {ge ge2 : M D} {pos p p2 : Pos} {gs : M (List D)}
theorem chars_len {x : Str} (h : x.length ≤ sizeLine) : (chars x).length ≤ sizeLine := by
  unfold chars
  rw [List.length_map, Array.length_toList]
  exact h
theorem i_any (h : GE X e ge) : GI X tg e (gItems ge) := by
  obtain ⟨t, pe, re⟩ := h.ex
  refine ⟨_, PI.or (pi_list pe) (PI.or (pi_tup pe) (pi_str pe)), fun A F H S σ ds S' R k e post => ?_⟩
  obtain ⟨⟨d, S1⟩, h1, e⟩ := bind_inv e
  obtain ⟨xs, h2, e⟩ := bind_inv e
  cases e
  cases d <;> simp only [itemsOf] at h2 <;> cases h2
  · refine .inr (.inr (re A F H S σ _ _ _ k h1 fun A1 F1 H1 v p1 s1 k1 r1 => ?_))
    obtain ⟨rfl, hz⟩ := rp_str_inv r1
    exact ⟨_, rfl, post A1 F1 H1 _ p1 s1 k1 (walk_str _) (chars_len hz)⟩
  · refine .inl (re A F H S σ _ _ _ k h1 fun A1 F1 H1 v p1 s1 k1 r1 => ?_)
    obtain ⟨a, vs, rfl, g1, g2, g3⟩ := rp_list_inv r1
    exact ⟨a, rfl, ⟨vs, SqL.of (k1.sub.same _ _ g1)⟩, post A1 F1 H1 _ p1 s1 k1 (walk_list g1 g2) g3⟩
  · refine .inr (.inl (re A F H S σ _ _ _ k h1 fun A1 F1 H1 v p1 s1 k1 r1 => ?_))
    obtain ⟨a, vs, rfl, g1, g2, g3⟩ := rp_tup_inv r1
    exact ⟨a, rfl, ⟨vs, sqT_same k1.sub.same.t g1⟩, post A1 F1 H1 _ p1 s1 k1 (walk_tup g1 g2) g3⟩
/-- range(n), range(a, b) -/
def gRng1 (g : M (List D)) : M (List D) := fun S => (g S).bind fun p => match p.1 with
  | [.int j] => if -(2 ^ 62) ≤ j ∧ j ≤ sizeLine then some (rng 0 j.toNat, p.2) else none
  | _ => none
def gRng2 (g : M (List D)) : M (List D) := fun S => (g S).bind fun p => match p.1 with
  | [.int i, .int j] => if -(2 ^ 32) ≤ i ∧ i ≤ 2 ^ 32 ∧ -(2 ^ 32) ≤ j ∧ j ≤ 2 ^ 32 ∧ j - i ≤ sizeLine then some (rng i (j - i).toNat, p.2) else none
  | _ => none
theorem rng_len (lo : Int) (n : Nat) : (rng lo n).length = n := by simp [rng]
theorem rps_int1 {K : PySem.W.Frag} {F : Hp} {vs : List V} {i : Int} (r : Rps K F vs [.int i]) : vs = [.int i] := by
  obtain ⟨v, rfl, q⟩ := rps1 r
  cases rp_int_inv q; rfl
theorem line_int : (sizeLine : Int) < 2 ^ 32 := by rw [sizeLine_eq]; decide
theorem rd_rng1 {K : PySem.W.Frag} {ta : TA} (ra : RdA K ta gs) : ∀ A F H S σ ds S' (R : It → Hp → Prop), Ok K A F H S σ → gRng1 gs S = some (ds, S') →
    (∀ A' F' H' J, A <+: A' → SameT F F' → Ok K A' F' H' S' σ → (∀ G, Walk K G J ds) → ds.length ≤ sizeLine → R J H') → iRng1 ta σ H R := by
  intro A F H S σ ds S' R k e post
  obtain ⟨⟨xs, S1⟩, h1, e⟩ := bind_inv e
  simp only at e
  split at e
  · split at e
    · rename_i j hj
      cases e
      refine ra A F H S σ _ _ _ k h1 fun A1 F1 H1 vs p1 s1 k1 r1 => ?_
      have hl := line_int
      exact ⟨j, rps_int1 r1, hj.1, by omega, post A1 F1 H1 _ p1 s1 k1 (fun G => walk_range 0 _) (by rw [rng_len]; omega)⟩
    · cases e
  · cases e
theorem i_range1 (hm : X.mg "range" = none) (ha : GA X [e] gs) (hg : Gl X "range" := by rfl) (hs : starEach [e] X.env = [(false, eval e X.env)] := by rfl) : GI X tg (.Call (.Name "range" p) [e] [] pos) (gRng1 gs) := by
  obtain ⟨t, pa, ra⟩ := ha.ex
  exact ⟨_, pi_range1 hg hm pa hs, fun A F H S σ ds S' R k e post => rd_rng1 ra A F H S σ ds S' R k e fun A1 F1 H1 J p1 s1 k1 w hz => post A1 F1 H1 J p1 s1 k1 (w _) hz⟩
theorem i0_range1 (hm : X.mg "range" = none) (ha : GA X [e] gs) (hg : Gl X "range" := by rfl) (hs : starEach [e] X.env = [(false, eval e X.env)] := by rfl) : GI0 X tg (.Call (.Name "range" p) [e] [] pos) (gRng1 gs) := by
  obtain ⟨t, pa, ra⟩ := ha.ex
  exact ⟨_, pi_range1 hg hm pa hs, fun A F H S σ ds S' R k e post => rd_rng1 ra A F H S σ ds S' R k e fun A1 F1 H1 J p1 s1 k1 w hz => post A1 F1 H1 J p1 s1 k1 (w _)⟩
/-- zip(xs, ys): both lists or both tuples -/
def gZip (g : M (List D)) : M (List D) := fun S => (g S).bind fun p => match p.1 with
  | [.list xs, .list ys] => some (zipD xs ys, p.2)
  | [.tuple xs, .tuple ys] => some (zipD xs ys, p.2)
  | _ => none
theorem zipD_len (xs ys : List D) : (zipD xs ys).length ≤ xs.length := by
  rw [zipD_eq, List.length_map, List.length_zip]
  omega
theorem walk_zipT {K : PySem.W.Frag} {F : Hp} {a b : Addr} {vs us : List V} {xs ys : List D} (h : SqT K F a vs) (g : SqT K F b us) (r : Rps K F vs xs) (q : Rps K F us ys) : Walk K F (ItzT K a b) (zipD xs ys) where
  stop := fun i H s hi => by
    refine ⟨vs, us, sqT_same s h, sqT_same s g, ?_⟩
    rw [zipD_eq, List.length_map, List.length_zip] at hi
    rw [r.length, q.length]
    omega
  go := fun i H s hi => by
    rw [zipD_eq, List.length_map, List.length_zip] at hi
    obtain ⟨v, e, _⟩ := r.get (List.getElem?_eq_getElem (show i < xs.length by omega))
    obtain ⟨u, e2, _⟩ := q.get (List.getElem?_eq_getElem (show i < ys.length by omega))
    exact ⟨vs, us, v, u, sqT_same s h, sqT_same s g, e, e2⟩
  yld := fun i d H x H' s hd y => by
    obtain ⟨T, v, u, rfl, hT, rfl, e1, e2⟩ := y
    rw [zipD_eq, List.getElem?_map] at hd
    obtain ⟨⟨d1, d2⟩, hz, rfl⟩ := Option.map_eq_some_iff.mp hd
    rw [List.getElem?_zip_eq_some] at hz
    obtain ⟨v', g1, r1⟩ := r.get hz.1
    obtain ⟨u', g2, r2⟩ := q.get hz.2
    have f1 := e1 vs (sqT_same s h)
    have f2 := e2 us (sqT_same s g)
    rw [g1] at f1; cases f1
    rw [g2] at f2; cases f2
    exact .inr ⟨T, _, _, rfl, hT, rfl, rfl, .cons r1 (.cons r2 .nil), by show 2 ≤ sizeLine; decide⟩
theorem i_zip {elts : List Expr} {kk : Nat} {tpos : Pos} (hm : X.mg "zip" = none) (ha : GA X [e, e2] gs) (hg : Gl X "zip" := by rfl) (hs : starEach [e, e2] X.env = (false, eval e X.env) :: starEach [e2] X.env := by rfl) (hpl : (backTo pos (starEach [e2] X.env)).any (·.1) = false := by rfl) :
    GI X (.Tuple elts kk tpos) (.Call (.Name "zip" p) [e, e2] [] pos) (gZip gs) := by
  obtain ⟨t, pa, ra⟩ := ha.ex
  refine ⟨_, pi_zipA hg hm pa hs hpl, fun A F H S σ ds S' R k e post => ?_⟩
  obtain ⟨⟨xs, S1⟩, h1, e⟩ := bind_inv e
  simp only at e
  split at e
  · cases e
    refine ra A F H S σ _ _ _ k h1 fun A1 F1 H1 vs p1 s1 k1 r1 => ?_
    obtain ⟨v, u, rfl, q1, q2⟩ := rps2 r1
    obtain ⟨a, ws, rfl, g1, g2, g3⟩ := rp_list_inv q1
    obtain ⟨b, us, rfl, f1, f2, f3⟩ := rp_list_inv q2
    exact ⟨a, b, ws, us, rfl, .inl ⟨SqL.of (k1.sub.same _ _ g1), SqL.of (k1.sub.same _ _ f1), post A1 F1 H1 _ p1 s1 k1 (walk_zip g1 f1 g2 f2) (Nat.le_trans (zipD_len _ _) g3)⟩⟩
  · cases e
    refine ra A F H S σ _ _ _ k h1 fun A1 F1 H1 vs p1 s1 k1 r1 => ?_
    obtain ⟨v, u, rfl, q1, q2⟩ := rps2 r1
    obtain ⟨a, ws, rfl, g1, g2, g3⟩ := rp_tup_inv q1
    obtain ⟨b, us, rfl, f1, f2, f3⟩ := rp_tup_inv q2
    exact ⟨a, b, ws, us, rfl, .inr ⟨sqT_same k1.sub.same.t g1, sqT_same k1.sub.same.t f1, post A1 F1 H1 _ p1 s1 k1 (walk_zipT g1 f1 g2 f2) (Nat.le_trans (zipD_len _ _) g3)⟩⟩
  · cases e
end

/-! ### targets: names, tuples of them -/
def RdG (K : PySem.W.Frag) (tgt : List Nat) (t : TG) (g : D → Sx → Option Sx) : Prop := ∀ A F H S σ v d S' (Q : L2.St → Hp → Prop), Ok K A F H S σ → Rp K F v d → g d S = some S' →
  (∀ A' F' H' σ', A <+: A' → SameT F F' → Ok K A' F' H' S' σ' → (∀ vs, (∀ i ∈ tgt, i ∈ vs) → wipe σ' vs = wipe σ vs) → Q σ' H') → t v σ H Q
def RdGs (K : PySem.W.Frag) (tgt : List Nat) (t : TGs) (g : List D → Sx → Option Sx) : Prop := ∀ A F H S σ vs ds S' (Q : L2.St → Hp → Prop), Ok K A F H S σ → Rps K F vs ds → g ds S = some S' →
  (∀ A' F' H' σ', A <+: A' → SameT F F' → Ok K A' F' H' S' σ' → (∀ vs, (∀ i ∈ tgt, i ∈ vs) → wipe σ' vs = wipe σ vs) → Q σ' H') → t vs σ H Q
structure GG (X : Cx) (tgt : List Nat) (e : Expr) (g : D → Sx → Option Sx) : Prop where
  ex : ∃ t, PG X e t ∧ RdG X.K tgt t g
structure GGs (X : Cx) (tgt : List Nat) (es : List Expr) (g : List D → Sx → Option Sx) : Prop where
  ex : ∃ t, PGs X es t ∧ RdGs X.K tgt t g
def sName (i : Nat) : D → Sx → Option Sx := fun d S => some ⟨S.sl.set i (some (.dat d)), S.os⟩
def sNil : List D → Sx → Option Sx := fun ds S => match ds with
  | [] => some S
  | _ => none
def sCons (g : D → Sx → Option Sx) (gs : List D → Sx → Option Sx) : List D → Sx → Option Sx := fun ds S => match ds with
  | d :: ds => (g d S).bind fun S1 => gs ds S1
  | [] => none
def sTup (n : Nat) (gs : List D → Sx → Option Sx) : D → Sx → Option Sx := fun d S => match d with
  | .tuple ds => if ds.length = n then gs ds S else none
  | _ => none
theorem wipe_set {σ : L2.St} {i : Nat} {x : Option V} : ∀ {vs : List Nat}, i ∈ vs → wipe (σ.set i x) vs = wipe σ vs
  | v :: vs, h => by
    unfold wipe
    by_cases hv : i = v
    · subst hv
      by_cases hm : i ∈ vs
      · rw [wipe_set hm]
      · have comm : ∀ ws : List Nat, i ∉ ws → wipe (σ.set i x) ws = (wipe σ ws).set i x := by
          intro ws
          induction ws with
          | nil => intro _; rfl
          | cons w ws ih =>
            intro hn
            simp only [List.mem_cons, not_or] at hn
            unfold wipe
            rw [ih hn.2, List.set_comm _ _ hn.1]
        rw [comm vs hm, List.set_set]
    · rcases List.mem_cons.mp h with e | h
      · exact absurd e hv
      · rw [wipe_set h]
section
variable {X : Cx} {pos : Pos} {e : Expr} {es : List Expr} {n : Nat} {tg ts : List Nat} {g : D → Sx → Option Sx} {gs : List D → Sx → Option Sx}
theorem g_name (i : Nat) {x : Str} (hN : X.N.Nodup) (hx : Loc X.env.scope x := by first | exact Or.inl rfl | exact Or.inr rfl) (hi : X.N[i]? = some x := by rfl) (hf : X.fn x = true ∨ X.env.scope.names.lookup x = some .local := by first | exact .inl rfl | exact .inr rfl | assumption) : GG X [i] (.Name x pos) (sName i) :=
  ⟨_, pg_name hN hi hx hf, fun A F H S σ v d S' Q k r e post => by
    cases e
    exact post A F H _ (List.prefix_refl _) (SameT.refl F) (k.setDat r) fun vs h => wipe_set (h i (by simp))⟩
theorem gs_nil : GGs X [] [] sNil := ⟨_, pgs_nil, fun A F H S σ vs ds S' Q k r e post => by
  cases ds with
  | cons _ _ => cases e
  | nil => cases e; cases r; exact ⟨rfl, post A F H σ (List.prefix_refl _) (SameT.refl F) k fun _ _ => rfl⟩⟩
theorem gs_cons (h1 : GG X tg e g) (h2 : GGs X ts es gs) (hs : (assignEach (e :: es) X.env).map (·.2) = assign e X.env :: (assignEach es X.env).map (·.2) := by rfl) : GGs X (tg ++ ts) (e :: es) (sCons g gs) := by
  obtain ⟨t, p1, r1⟩ := h1.ex
  obtain ⟨u, p2, r2⟩ := h2.ex
  refine ⟨_, pgs_cons p1 p2 hs, fun A F H S σ vs ds S' Q k r e post => ?_⟩
  cases ds with
  | nil => cases e
  | cons d ds =>
    cases r with
    | cons ra rb =>
      obtain ⟨S1, e1, e⟩ := bind_inv e
      refine ⟨_, _, rfl, r1 A F H S σ _ d S1 _ k ra e1 fun A1 F1 H1 σ1 q1 s1 k1 w1 => r2 A1 F1 H1 S1 σ1 _ ds S' Q k1 (Rps.mono s1 _ _ rb) e fun A2 F2 H2 σ2 q2 s2 k2 w2 => ?_⟩
      exact post A2 F2 H2 σ2 (q1.trans q2) (s1.trans s2) k2 fun vs h => (w2 vs fun i hi => h i (List.mem_append_right _ hi)).trans (w1 vs fun i hi => h i (List.mem_append_left _ hi))
theorem g_tup {k} (h : GGs X ts es gs) (hc : X.calm = true := by rfl) (hn : (assignEach es X.env).length = n := by rfl) (hst : (assignEach es X.env).findIdx? (·.1) = none := by rfl) : GG X ts (.Tuple es k pos) (sTup n gs) := by
  obtain ⟨t, p1, r1⟩ := h.ex
  refine ⟨_, pg_tup hc p1 hn hst, fun A F H S σ v d S' Q k r e post => ?_⟩
  cases d <;> simp only [sTup] at e <;> try cases e
  split at e
  · rename_i hl
    obtain ⟨a, vs, rfl, g1, g2, g3⟩ := rp_tup_inv r
    exact ⟨a, vs, rfl, sqT_same k.sub.same.t g1, by rw [g2.length]; exact hl, r1 A F H S σ vs _ S' Q k g2 e post⟩
  · cases e
end
end Fu

set_option maxHeartbeats 4000000
namespace Fu
open PySem PySem.Spec PyProof.Rows L2 RZ
variable [TabsC]

/-! ### slots of a comprehension's own names -/
def wipeS (sl : List (Option R)) : List Nat → List (Option R)
  | [] => sl
  | v :: vs => (wipeS sl vs).set v none
def backS (old new : List (Option R)) : List Nat → List (Option R)
  | [] => new
  | v :: vs => match old[v]? with
    | some x => (backS old new vs).set v x
    | none => backS old new vs
theorem wipeS_len (sl : List (Option R)) : ∀ vs, (wipeS sl vs).length = sl.length
  | [] => rfl
  | v :: vs => by unfold wipeS; rw [List.length_set, wipeS_len sl vs]
theorem backS_len (old new : List (Option R)) : ∀ vs, (backS old new vs).length = new.length
  | [] => rfl
  | v :: vs => by
    unfold backS
    split
    · rw [List.length_set, backS_len old new vs]
    · exact backS_len old new vs
theorem wipeS_in {sl : List (Option R)} {i : Nat} {r : R} : ∀ {vs : List Nat}, (wipeS sl vs)[i]? = some (some r) → sl[i]? = some (some r) ∧ i ∉ vs
  | [], h => ⟨h, by simp⟩
  | v :: vs, h => by
    unfold wipeS at h
    by_cases hi : v = i
    · subst hi
      by_cases hv : v < (wipeS sl vs).length
      · rw [List.getElem?_set_self hv] at h; cases h
      · rw [List.getElem?_eq_none (by simpa using hv)] at h; cases h
    · rw [List.getElem?_set_ne hi] at h
      obtain ⟨h1, h2⟩ := wipeS_in h
      exact ⟨h1, by simp only [List.mem_cons, not_or]; exact ⟨fun e => hi e.symm, h2⟩⟩
theorem wipeS_out {sl : List (Option R)} {i : Nat} : ∀ {vs : List Nat}, i ∉ vs → (wipeS sl vs)[i]? = sl[i]?
  | [], _ => rfl
  | v :: vs, h => by
    simp only [List.mem_cons, not_or] at h
    unfold wipeS
    rw [List.getElem?_set_ne (Ne.symm h.1), wipeS_out h.2]
theorem wipe_outV {σ : L2.St} {i : Nat} : ∀ {vs : List Nat}, i ∉ vs → (wipe σ vs)[i]? = σ[i]?
  | [], _ => rfl
  | v :: vs, h => by
    simp only [List.mem_cons, not_or] at h
    unfold wipe
    rw [List.getElem?_set_ne (Ne.symm h.1), wipe_outV h.2]
theorem backS_in {old new : List (Option R)} {i : Nat} : ∀ {vs : List Nat}, old.length = new.length → (backS old new vs)[i]? = if i ∈ vs then old[i]? else new[i]?
  | [], _ => by simp [backS]
  | v :: vs, h => by
    have ih := backS_in (i := i) (vs := vs) h
    unfold backS
    by_cases hv : v = i
    · subst hv
      simp only [List.mem_cons, true_or, if_true]
      cases e : old[v]? with
      | none =>
        show (backS old new vs)[v]? = none
        rw [ih]
        have hl : new[v]? = none := List.getElem?_eq_none (by rw [← h]; exact List.getElem?_eq_none_iff.mp e)
        split
        · exact e
        · exact hl
      | some x =>
        show ((backS old new vs).set v x)[v]? = some x
        rw [List.getElem?_set_self]
        rw [backS_len, ← h]
        exact (List.getElem?_eq_some_iff.mp e).1
    · have e2 : (match old[v]? with | some x => (backS old new vs).set v x | none => backS old new vs)[i]? = (backS old new vs)[i]? := by
        split
        · rw [List.getElem?_set_ne hv]
        · rfl
      rw [e2, ih]
      have : (i ∈ v :: vs) ↔ i ∈ vs := by
        simp only [List.mem_cons]
        exact ⟨fun z => z.elim (fun e => absurd e.symm hv) id, .inr⟩
      by_cases hm : i ∈ vs
      · rw [if_pos hm, if_pos (this.mpr hm)]
      · rw [if_neg hm, if_neg (fun z => hm (this.mp z))]
section
variable {K : PySem.W.Frag} {A A' : List Addr} {F F' G H : Hp} {S S' : Sx} {σ τ : L2.St}
theorem Ok.wipe {vs : List Nat} (k : Ok K A F H S τ) (e : L2.wipe τ vs = L2.wipe σ vs) : Ok K A F H ⟨wipeS S.sl vs, S.os⟩ (L2.wipe σ vs) := by
  refine ⟨k.sub, by rw [wipeS_len, k.len, ← e, wipe_length], k.alen, k.nd, fun i r h => ?_, k.cell, k.trk, k.tab⟩
  obtain ⟨h1, h2⟩ := wipeS_in h
  obtain ⟨v, e1, q⟩ := k.rslot i r h1
  exact ⟨v, by rw [← e, wipe_outV h2]; exact e1, q⟩
theorem Ok.back {vs : List Nat} (k0 : Ok K A F H S σ) (k : Ok K A' F' G ⟨wipeS S'.sl vs, S'.os⟩ (L2.wipe σ vs)) (p : A <+: A') (s : SameT F F') : Ok K A' F' G ⟨backS S.sl S'.sl vs, S'.os⟩ σ := by
  have hl : S.sl.length = S'.sl.length := by
    have := k.len
    rw [wipeS_len, wipe_length] at this
    rw [k0.len, this]
  refine ⟨k.sub, by rw [backS_len, ← hl]; exact k0.len, k.alen, k.nd, fun i r h => ?_, k.cell, k.trk, k.tab⟩
  simp only at h
  rw [backS_in hl] at h
  by_cases hi : i ∈ vs
  · rw [if_pos hi] at h
    obtain ⟨v, e1, q⟩ := k0.rslot i r h
    exact ⟨v, e1, q.mono p s _ _⟩
  · rw [if_neg hi] at h
    obtain ⟨v, e1, q⟩ := k.rslot i r (by simp only; rw [wipeS_out hi]; exact h)
    rw [wipe_outV hi] at e1
    exact ⟨v, e1, q⟩
/-- one list over a heap: what may be forgotten -/
theorem sub_one {p : Addr} {o : HO} (h : G p = none) (l : Loose o) : Sub G (upd G p o) := ⟨fun b u e => by rw [upd_ne (ne_of_none e h)]; exact e, fun b u e n => by
  by_cases hb : b = p
  · subst hb; rw [upd_same] at e; cases e; exact l
  · rw [upd_ne hb, n] at e; cases e⟩
theorem mix_one {G' : Hp} {p : Addr} {o : HO} (h : G p = none) (h' : G' p = none) : mixH G (upd G p o) G' = upd G' p o := by
  funext b
  by_cases hb : b = p
  · subst hb
    rw [mix_lost h upd_same, upd_same]
  · rw [upd_ne hb]
    cases q : G b with
    | some u => exact mix_held q
    | none => exact mix_free (by rw [upd_ne hb]; exact q)
end

/-! ### tests of a comprehension -/
structure GTs (X : Cx) (ifs : List Expr) (g : M Bool) : Prop where
  ex : ∃ t, PTs X ifs t ∧ RdT X.K t g
def gYes : M Bool := fun S => some (true, S)
theorem ts_nil {X : Cx} : GTs X [] gYes := ⟨_, pts_nil, fun A F H S σ b S' Q k e post => by cases e; exact post A F H (List.prefix_refl _) (SameT.refl F) k⟩
theorem ts_one {X : Cx} {c : Expr} {g : M Bool} (h : GT X c g) : GTs X [c] g := let ⟨_, p, r⟩ := h.ex; ⟨_, pts_one p, r⟩

/-! ### the turns of a comprehension -/
def gTurns (gg : D → Sx → Option Sx) (gt : M Bool) (ge : M D) (vs : List Nat) : List D → Sx → Option (List D × Sx)
  | [], S => some ([], S)
  | d :: ds, S => (gg d ⟨wipeS S.sl vs, S.os⟩).bind fun S1 => (gt S1).bind fun p =>
    if p.1 = true then (ge p.2).bind fun q => (gTurns gg gt ge vs ds q.2).bind fun r => some (q.1 :: r.1, r.2)
    else gTurns gg gt ge vs ds p.2
def gLc (gi : M (List D)) (gg : D → Sx → Option Sx) (gt : M Bool) (ge : M D) (vs : List Nat) : M D := fun S => (gi S).bind fun p => (gTurns gg gt ge vs p.1 p.2).bind fun r => some (.list r.1, ⟨backS p.2.sl r.2.sl vs, r.2.os⟩)
section
variable {K : PySem.W.Frag}
/-- a new list that is nobody's yet -/
def RdN (K : PySem.W.Frag) (t : TE) (g : M D) : Prop := ∀ A F H S σ d S' (Q : VK), Ok K A F H S σ → g S = some (d, S') →
  (∀ A' F' G p vs ds, A <+: A' → SameT F F' → Ok K A' F' G S' σ → G p = none → d = .list ds → Rps K F' vs ds → ds.length ≤ sizeLine → Q (.ref p) (upd G p (.lst vs))) → t σ H Q
theorem RdN.e {t : TE} {g : M D} (h : RdN K t g) : RdE K t g := by
  intro A F H S σ d S' Q k e post
  refine h A F H S σ d S' Q k e fun A1 F1 G p vs ds p1 s1 k1 hp ed r hz => ?_
  subst ed
  obtain ⟨s2, k2, r2⟩ := k1.newList hp r hz
  exact post A1 _ _ _ p1 (s1.trans s2) k2 r2
theorem rd_lc {wi : TI} {g : TG} {tt : TT} {te : TE} {gi : M (List D)} {gg : D → Sx → Option Sx} {gt : M Bool} {ge : M D} {tgt vs : List Nat} (hi : RdI K wi gi) (hg : RdG K tgt g gg) (ht : RdT K tt gt) (he : RdE K te ge) (hv : ∀ i ∈ tgt, i ∈ vs) :
    RdN K (tLc wi (gFr g) (tFrT tt) (tFr te) vs) (gLc gi gg gt ge vs) := by
  intro A F H S σ d S' Q k e post
  obtain ⟨⟨ds, S1⟩, e1, e⟩ := bind_inv e
  obtain ⟨⟨rs, S2⟩, e2, e⟩ := bind_inv e
  cases e
  refine hi A F H S σ ds S1 _ k e1 fun A1 F1 H1 J p1 s1 k1 w hz => fun L hL => ?_
  refine ⟨fun i m H => m = ds.length - i ∧ i ≤ ds.length ∧ ∃ A F G S acc us rest, SameT F1 F ∧ A1 <+: A ∧ Ok K A F G ⟨wipeS S.sl vs, S.os⟩ (wipe σ vs) ∧ G L = none ∧ H = upd G L (.lst us) ∧ Rps K F us acc ∧ acc.length ≤ i ∧
    gTurns gg gt ge vs (ds.drop i) S = some (rest, S2) ∧ acc ++ rest = rs, ⟨ds.length, by simp, Nat.zero_le _, A1, F1, H1, S1, [], [], rs, SameT.refl _, List.prefix_refl _, k1.wipe rfl, hL, rfl, .nil, Nat.le_refl _, by simpa using e2, rfl⟩, ?_⟩
  rintro i m H ⟨rfl, hil, A2, F2, G2, S3, acc, us, rest, s2, p2, k2, hG, rfl, ru, hla, et, ea⟩
  have sFH : SameT F1 (upd G2 L (.lst us)) := (s2.trans k2.sub.same.t).trans (same_upd hG)
  by_cases hlt : i < ds.length
  · refine .inr ⟨w.go i _ sFH hlt, fun H' => i + 1 ≤ ds.length ∧ ∃ A F G S acc us rest, SameT F1 F ∧ A1 <+: A ∧ Ok K A F G ⟨wipeS S.sl vs, S.os⟩ (wipe σ vs) ∧ G L = none ∧ H' = upd G L (.lst us) ∧ Rps K F us acc ∧ acc.length ≤ i + 1 ∧
      gTurns gg gt ge vs (ds.drop (i + 1)) S = some (rest, S2) ∧ acc ++ rest = rs, fun H' h => ⟨ds.length - (i + 1), by omega, rfl, h⟩, fun x H' hy => ?_⟩
    rw [List.drop_eq_getElem_cons hlt] at et
    obtain ⟨S4, e4, et⟩ := bind_inv (show (gg ds[i] ⟨wipeS S3.sl vs, S3.os⟩).bind _ = _ from et)
    obtain ⟨⟨b, S5⟩, e5, et⟩ := bind_inv et
    -- the item
    have key : ∃ F3 G3, SameT F2 F3 ∧ Ok K A2 F3 G3 ⟨wipeS S3.sl vs, S3.os⟩ (wipe σ vs) ∧ G3 L = none ∧ H' = upd G3 L (.lst us) ∧ Rp K F3 x ds[i] := by
      rcases w.yld i ds[i] _ x H' sFH (List.getElem?_eq_getElem hlt) hy with ⟨rfl, r⟩ | ⟨T, ws, es, rfl, hT, rfl, ed, r, hz2⟩
      · exact ⟨F2, G2, SameT.refl _, k2, hG, rfl, r.mono s2 _ _⟩
      · have hTL : T ≠ L := fun z => by subst z; rw [upd_same] at hT; cases hT
        have gT : G2 T = none := by rwa [upd_ne hTL] at hT
        obtain ⟨s3, k3, r3⟩ := k2.newTup gT (Rps.mono s2 _ _ r) hz2
        refine ⟨_, _, s3, k3, by rw [upd_ne (Ne.symm hTL)]; exact hG, ?_, by rw [ed]; exact r3⟩
        funext c
        by_cases h1 : c = T
        · subst h1; rw [upd_same, upd_ne hTL, upd_same]
        · rw [upd_ne h1]
          by_cases h2 : c = L
          · subst h2; rw [upd_same, upd_same]
          · rw [upd_ne h2, upd_ne h2, upd_ne h1]
    obtain ⟨F3, G3, s3, k3, hG3, rfl, rx⟩ := key
    refine ⟨G3, sub_one hG3 trivial, hg A2 F3 G3 _ _ x ds[i] S4 _ k3 rx e4 fun A4 F4 G4 σ4 p4 s4 k4 w4 => ⟨fun c xs q => ?_, fun lost => ?_⟩⟩
    · exact k4.sub.keep (k4.sub.same c _ (by
        have := k3.sub.keep q (fun z => z)
        exact s4.old c _ this trivial)) (fun z => z) |> fun z => k4.sub.same c _ z
    · have hG4 : G4 L = none := lost L _ upd_same hG3
      rw [mix_one hG3 hG4]
      refine ⟨(w4 vs hv).trans (by
        have : ∀ ws : List Nat, wipe (wipe σ ws) ws = wipe σ ws := by
          intro ws
          apply List.ext_getElem?
          intro n
          by_cases hn : n ∈ ws
          · have h1 : ∀ {τ : L2.St} {n : Nat} {ws : List Nat}, n ∈ ws → (wipe τ ws)[n]? = if n < τ.length then some none else none := by
              intro τ n ws
              induction ws with
              | nil => intro h; cases h
              | cons v ws ih =>
                intro h
                unfold wipe
                by_cases hv : v = n
                · subst hv
                  by_cases hl : v < τ.length
                  · rw [List.getElem?_set_self (by rw [wipe_length]; exact hl), if_pos hl]
                  · rw [List.getElem?_eq_none (by rw [List.length_set, wipe_length]; omega), if_neg hl]
                · rw [List.getElem?_set_ne hv]
                  exact ih ((List.mem_cons.mp h).resolve_left fun z => hv z.symm)
            rw [h1 hn, h1 hn, wipe_length]
          · rw [wipe_outV hn]
        exact this vs), G4, sub_one hG4 trivial, ht A4 F4 G4 S4 σ4 b S5 _ k4 e5 fun A5 F5 G5 p5 s5 k5 => ⟨fun c xs q => ?_, fun lost => ?_⟩⟩
      · exact k5.sub.same c _ (s5.old c _ (k4.sub.keep q (fun z => z)) trivial)
      · have hG5 : G5 L = none := lost L _ upd_same hG4
        rw [mix_one hG4 hG5]
        have w5 : wipe σ4 vs = wipe σ vs := (w4 vs hv).trans (by
          have h1 : ∀ {τ : L2.St} {n : Nat} {ws : List Nat}, n ∈ ws → (wipe τ ws)[n]? = if n < τ.length then some none else none := by
            intro τ n ws
            induction ws with
            | nil => intro h; cases h
            | cons v ws ih =>
              intro h
              unfold wipe
              by_cases hv : v = n
              · subst hv
                by_cases hl : v < τ.length
                · rw [List.getElem?_set_self (by rw [wipe_length]; exact hl), if_pos hl]
                · rw [List.getElem?_eq_none (by rw [List.length_set, wipe_length]; omega), if_neg hl]
              · rw [List.getElem?_set_ne hv]
                exact ih ((List.mem_cons.mp h).resolve_left fun z => hv z.symm)
          apply List.ext_getElem?
          intro n
          by_cases hn : n ∈ vs
          · rw [h1 hn, h1 hn, wipe_length]
          · rw [wipe_outV hn])
        cases b with
        | false =>
          rw [if_neg Bool.false_ne_true] at et
          show if false = true then _ else _
          rw [if_neg Bool.false_ne_true]
          exact ⟨hlt, A5, F5, G5, S5, acc, us, rest, s2.trans (s3.trans (s4.trans s5)), p2.trans (p4.trans p5), k5.wipe w5, hG5, rfl, Rps.mono (s3.trans (s4.trans s5)) _ _ ru, Nat.le_succ_of_le hla, et, ea⟩
        | true =>
          rw [if_pos rfl] at et
          show if true = true then _ else _
          rw [if_pos rfl]
          obtain ⟨⟨y, S6⟩, e6, et⟩ := bind_inv et
          obtain ⟨⟨rest', S7⟩, e7, et⟩ := bind_inv et
          cases et
          refine ⟨G5, sub_one hG5 trivial, he A5 F5 G5 S5 σ4 y S6 _ k5 e6 fun A6 F6 G6 v p6 s6 k6 r6 => ⟨fun c xs q => ?_, fun lost => ?_⟩⟩
          · exact k6.sub.same c _ (s6.old c _ (k5.sub.keep q (fun z => z)) trivial)
          · have hG6 : G6 L = none := lost L _ upd_same hG5
            rw [mix_one hG5 hG6]
            have ru' : Rps K F6 us acc := Rps.mono (s3.trans (s4.trans (s5.trans s6))) _ _ ru
            refine ⟨us, upd_same, ?_, hlt, A6, F6, G6, S6, acc ++ [y], us ++ [v], rest', s2.trans (s3.trans (s4.trans (s5.trans s6))), p2.trans (p4.trans (p5.trans p6)), k6.wipe w5, hG6, upd_upd, ru'.append (.cons r6 .nil), ?_, e7, ?_⟩
            · rw [ru'.length]
              omega
            · rw [List.length_append, List.length_singleton]
              omega
            · rw [← ea, List.append_assoc]; rfl
  · have ei : i = ds.length := by omega
    subst ei
    rw [List.drop_length] at et
    cases et
    refine .inl ⟨w.stop _ _ sFH (Nat.le_refl _), ?_⟩
    rw [List.append_nil] at ea
    subst ea
    exact post A2 F2 G2 L us acc (p1.trans p2) (s1.trans s2) (k1.back k2 p2 s2) hG rfl ru (Nat.le_trans hla hz)
end

/-! ### the one reading of each judgement -/
def tOf (K : PySem.W.Frag) (g : M D) : TE := fun σ H Q => ∃ A F S d S', Ok K A F H S σ ∧ g S = some (d, S') ∧ ∀ A' F' H' v, A <+: A' → SameT F F' → Ok K A' F' H' S' σ → Rp K F' v d → Q v H'
def ttOf (K : PySem.W.Frag) (g : M Bool) : TT := fun σ H Q => ∃ A F S d S', Ok K A F H S σ ∧ g S = some (d, S') ∧ ∀ A' F' H', A <+: A' → SameT F F' → Ok K A' F' H' S' σ → Q d H'
def gOf (K : PySem.W.Frag) (tgt : List Nat) (g : D → Sx → Option Sx) : TG := fun v σ H Q => ∃ A F S d S', Ok K A F H S σ ∧ Rp K F v d ∧ g d S = some S' ∧ ∀ A' F' H' σ', A <+: A' → SameT F F' → Ok K A' F' H' S' σ' → (∀ vs, (∀ i ∈ tgt, i ∈ vs) → wipe σ' vs = wipe σ vs) → Q σ' H'
def iOf (K : PySem.W.Frag) (g : M (List D)) : TI := fun σ H R => ∃ A F S ds S', Ok K A F H S σ ∧ g S = some (ds, S') ∧ ∀ A' F' H' J, A <+: A' → SameT F F' → Ok K A' F' H' S' σ → Walk K F' J ds → ds.length ≤ sizeLine → R J H'
theorem GE.pe {X : Cx} {e : Expr} {g : M D} (h : GE X e g) : PE X e (tOf X.K g) := by
  obtain ⟨t, p, r⟩ := h.ex
  exact ⟨fun pins s σ H Q I ⟨A, F, S, d, S', k, e, post⟩ => p.run pins s σ H Q I (r A F H S σ d S' Q k e post)⟩
theorem rd_of {K : PySem.W.Frag} {g : M D} : RdE K (tOf K g) g := fun A F H S σ d S' Q k e post => ⟨A, F, S, d, S', k, e, post⟩
theorem GTs.pts {X : Cx} {es : List Expr} {g : M Bool} (h : GTs X es g) : PTs X es (ttOf X.K g) := by
  obtain ⟨t, p, r⟩ := h.ex
  exact ⟨fun pins s σ H Q I ⟨A, F, S, d, S', k, e, post⟩ => p.run pins s σ H Q I (r A F H S σ d S' Q k e post)⟩
theorem rd_tof {K : PySem.W.Frag} {g : M Bool} : RdT K (ttOf K g) g := fun A F H S σ d S' Q k e post => ⟨A, F, S, d, S', k, e, post⟩
theorem GG.pg {X : Cx} {tgt : List Nat} {e : Expr} {g : D → Sx → Option Sx} (h : GG X tgt e g) : PG X e (gOf X.K tgt g) := by
  obtain ⟨t, p, r⟩ := h.ex
  exact ⟨fun pins s σ H v u Q I rv ⟨A, F, S, d, S', k, rd, e, post⟩ => p.run pins s σ H v u Q I rv (r A F H S σ v d S' Q k rd e post)⟩
theorem rd_gof {K : PySem.W.Frag} {tgt : List Nat} {g : D → Sx → Option Sx} : RdG K tgt (gOf K tgt g) g := fun A F H S σ v d S' Q k r e post => ⟨A, F, S, d, S', k, r, e, post⟩
theorem GI.pi {X : Cx} {tg e : Expr} {g : M (List D)} (h : GI X tg e g) : PI X tg e (iOf X.K g) := by
  obtain ⟨t, p, r⟩ := h.ex
  exact ⟨fun pins s σ H R I ⟨A, F, S, d, S', k, e, post⟩ => p.run pins s σ H R I (r A F H S σ d S' R k e post)⟩
theorem rd_iof {K : PySem.W.Frag} {g : M (List D)} : RdI K (iOf K g) g := fun A F H S σ d S' Q k e post => ⟨A, F, S, d, S', k, e, post⟩

/-! ### comprehensions -/
section
variable {X : Cx} {pos : Pos} {elt tg iter : Expr} {ifs : List Expr} {scope : Scope} {gi : M (List D)} {gg : D → Sx → Option Sx} {gt : M Bool} {ge : M D} {tgt : List Nat}
/-- the block of a comprehension, wherever it stands -/
abbrev InBlk (X : Cx) (scope : Scope) (P : Cx → Prop) : Prop := ∀ (s : Shared) (H : Hp) (C : Addr) (cl : List (Str × Addr)) (fp : List Addr), P (X.blk s H scope (compEnvC scope cl C X.env) fp)
structure GN (X : Cx) (e : Expr) (g : M D) : Prop where
  ex : ∃ t, PE X e t ∧ RdN X.K t g
theorem GN.e {X : Cx} {e : Expr} {g : M D} (h : GN X e g) : GE X e g := let ⟨_, p, r⟩ := h.ex; ⟨_, p, r.e⟩
theorem n_lc (own : List (Str × Nat)) (hN : X.N.Nodup) (hi : GI X tg iter gi) (ok : BlkOk X.N X.env.scope scope own) (hg : InBlk X scope fun Y => GG Y tgt tg gg) (ht : InBlk X scope fun Y => GTs Y ifs gt) (he : InBlk X scope fun Y => GE Y elt ge)
    (hv : ∀ i ∈ tgt, i ∈ own.map (·.2) := by decide) (hc : X.calm = true := by rfl) (hs : ∀ x, foldedSetIterable iter X.env x = pure x := by intro _; rfl) : GN X (.ListComp elt [⟨tg, iter, ifs, 0⟩] scope pos) (gLc gi gg gt ge (own.map (·.2))) :=
  ⟨_, pe_lc hc hN hi.pi ok (fun s H C cl fp => pg_fr (hg s H C cl fp).pg) (fun s H C cl fp => pts_fr (ht s H C cl fp).pts) (fun s H C cl fp => pe_fr (he s H C cl fp).pe) hs, rd_lc rd_iof rd_gof rd_tof rd_of hv⟩
end
end Fu

set_option maxHeartbeats 4000000
namespace Fu
open PySem PySem.Spec PyProof.Rows L2 RZ
variable [TabsC]

section
variable {K : PySem.W.Frag}
end
/-! ### two clauses -/
section
variable {K : PySem.W.Frag}
end
section
variable {X : Cx} {pos : Pos} {elt tg iter tg1 iter1 : Expr} {ifs ifs1 : List Expr} {scope : Scope} {gi gi1 : M (List D)} {gg gg1 : D → Sx → Option Sx} {gt gt1 : M Bool} {ge : M D} {tgt tgt1 : List Nat}
end
end Fu

set_option maxHeartbeats 4000000
namespace Fu
open PySem PySem.Spec PyProof.Rows L2 RZ
variable [TabsC]

/-! ### statements -/
inductive Out where
  | nx (S : Sx)
  | rt (d : D) (S : Sx)
  | bk (S : Sx)
  | ct (S : Sx)
  | ro (j : Nat) (S : Sx)
  | rs (r : R) (S : Sx)
/-- what a statement's end hands on; B: what stands for good, A0: the cells that were there -/
def OutP (K : PySem.W.Frag) (B : Hp) (A0 : List Addr) (o : Out) (E : Ends) : Prop := match o with
  | .nx S' => ∀ A F H σ, SameT B F → A0 <+: A → Ok K A F H S' σ → E.nx σ H
  | .rt d S' => ∀ A F H σ v, SameT B F → A0 <+: A → Ok K A F H S' σ → Rp K F v d → E.rt v H
  | .bk S' => ∀ A F H σ, SameT B F → A0 <+: A → Ok K A F H S' σ → E.bk σ H
  | .ct S' => ∀ A F H σ, SameT B F → A0 <+: A → Ok K A F H S' σ → E.ct σ H
  | .ro j S' => ∀ A F H σ a, SameT B F → A0 <+: A → Ok K A F H S' σ → A[j]? = some a → E.rt (.ref a) H
  | .rs r S' => ∀ A F H σ v, SameT B F → A0 <+: A → Ok K A F H S' σ → Rr K A F v r → E.rt v H
def RdS (K : PySem.W.Frag) (P : Hp → Prop) (t : TS) (g : Sx → Option Out) : Prop := ∀ B A0 A F H S σ o (E : Ends), P B → SameT B F → A0 <+: A → Ok K A F H S σ → g S = some o → OutP K B A0 o E → t E σ H
structure GS (X : Cx) (P : Hp → Prop) (st : Stmt) (g : Sx → Option Out) : Prop where
  ex : ∃ t, PS X st t ∧ RdS X.K P t g
structure GSs (X : Cx) (P : Hp → Prop) (st : List Stmt) (g : Sx → Option Out) : Prop where
  ex : ∃ t, PSs X st t ∧ RdS X.K P t g
def qNx : Sx → Option Out := fun S => some (.nx S)
def qSeq (g h : Sx → Option Out) : Sx → Option Out := fun S => (g S).bind fun o => match o with
  | .nx S1 => h S1
  | o => some o
def qDrop (g : M D) : Sx → Option Out := fun S => (g S).bind fun p => some (.nx p.2)
def qRet (g : M D) : Sx → Option Out := fun S => (g S).bind fun p => some (.rt p.1 p.2)
def qRetN : Sx → Option Out := fun S => some (.rt .none S)
def qIf (t : M Bool) (g h : Sx → Option Out) : Sx → Option Out := fun S => (t S).bind fun p => if p.1 = true then g p.2 else h p.2
def qSet (i : Nat) (g : M D) : Sx → Option Out := fun S => (g S).bind fun p => some (.nx ⟨p.2.sl.set i (some (.dat p.1)), p.2.os⟩)
def qAsg (gg : D → Sx → Option Sx) (g : M D) : Sx → Option Out := fun S => (g S).bind fun p => (gg p.1 p.2).bind fun S1 => some (.nx S1)
/-- a new list of one's own -/
def qOwn (i : Nat) (g : M D) : Sx → Option Out := fun S => (g S).bind fun p => match p.1 with
  | .list ds => some (.nx ⟨p.2.sl.set i (some (.own p.2.os.length)), p.2.os ++ [some (.lst ds)]⟩)
  | _ => none
def qNone : Sx → Option Out := fun _ => none
section
variable {X : Cx} {P : Hp → Prop} {st : Stmt} {sts : List Stmt} {g h : Sx → Option Out} {e : Expr} {ge : M D} {pos : Pos}
theorem ss_nil : GSs X P [] qNx := ⟨_, pss_nil, fun B A0 A F H S σ o E hP s p k e post => by cases e; exact post A F H σ s p k⟩
theorem rd_seq {K : PySem.W.Frag} {t u : TS} (hg : RdS K P t g) (hh : RdS K P u h) : RdS K P (tSeq t u) (qSeq g h) := by
  intro B A0 A F H S σ o E hP s p k e post
  obtain ⟨o1, e1, e⟩ := bind_inv e
  refine hg B A0 A F H S σ o1 _ hP s p k e1 ?_
  cases o1 with
  | nx S1 => exact fun A1 F1 H1 σ1 s1 p1 k1 => hh B A0 A1 F1 H1 S1 σ1 o E hP s1 p1 k1 e post
  | rt d S1 => cases e; exact post
  | bk S1 => cases e; exact post
  | ct S1 => cases e; exact post
  | ro j S1 => cases e; exact post
  | rs r S1 => cases e; exact post
theorem ss_cons (h1 : GS X P st g) (h2 : GSs X P sts h) : GSs X P (st :: sts) (qSeq g h) :=
  let ⟨_, p1, r1⟩ := h1.ex; let ⟨_, p2, r2⟩ := h2.ex; ⟨_, pss_cons p1 p2, rd_seq r1 r2⟩
theorem ss_one (h1 : GS X P st g) : GSs X P [st] g := let ⟨_, p1, r1⟩ := h1.ex; ⟨_, pss_one p1, r1⟩
theorem s_never : GS X P st qNone := ⟨_, ps_never, fun B A0 A F H S σ o E hP s p k e post => by cases e⟩
theorem s_expr (he : GE X e ge) (hs : swapsWith e none pos.line X.env = pure false := by rfl) : GS X P (.Expr e pos) (qDrop ge) := by
  obtain ⟨t, p1, r1⟩ := he.ex
  refine ⟨_, ps_expr p1 hs, fun B A0 A F H S σ o E hP s p k e post => ?_⟩
  obtain ⟨⟨d, S1⟩, e1, e⟩ := bind_inv e
  cases e
  exact r1 A F H S σ d S1 _ k e1 fun A1 F1 H1 v p1 s1 k1 _ => post A1 F1 H1 σ (s.trans s1) (p.trans p1) k1
theorem s_ret (he : GE X e ge) : GS X P (.Return (some e) pos) (qRet ge) := by
  obtain ⟨t, p1, r1⟩ := he.ex
  refine ⟨_, ps_ret p1, fun B A0 A F H S σ o E hP s p k e post => ?_⟩
  obtain ⟨⟨d, S1⟩, e1, e⟩ := bind_inv e
  cases e
  exact r1 A F H S σ d S1 _ k e1 fun A1 F1 H1 v p1 s1 k1 rv => post A1 F1 H1 σ v (s.trans s1) (p.trans p1) k1 rv
theorem s_if {c : Expr} {a b : List Stmt} {gt : M Bool} (hc : GT X c gt) (ha : GSs X P a g) (hb : GSs X P b h) : GS X P (.If c a b pos) (qIf gt g h) := by
  obtain ⟨t, pc, rc⟩ := hc.ex
  obtain ⟨_, pa, ra⟩ := ha.ex
  obtain ⟨_, pb, rb⟩ := hb.ex
  refine ⟨_, ps_if pc pa pb, fun B A0 A F H S σ o E hP s p k e post => ?_⟩
  obtain ⟨⟨x, S1⟩, e1, e⟩ := bind_inv e
  refine rc A F H S σ x S1 _ k e1 fun A1 F1 H1 p1 s1 k1 => ?_
  cases x with
  | true => exact ra B A0 A1 F1 H1 S1 σ o E hP (s.trans s1) (p.trans p1) k1 e post
  | false => exact rb B A0 A1 F1 H1 S1 σ o E hP (s.trans s1) (p.trans p1) k1 e post
theorem rd_asgN {K : PySem.W.Frag} {t : TE} (i : Nat) (r : RdE K t ge) : RdS K P (tAsg t (gName i)) (qSet i ge) := by
  intro B A0 A F H S σ o E hP s p k e post
  obtain ⟨⟨d, S1⟩, e1, e⟩ := bind_inv e
  cases e
  exact r A F H S σ d S1 _ k e1 fun A1 F1 H1 v p1 s1 k1 rv => post A1 F1 H1 _ (s.trans s1) (p.trans p1) (k1.setDat rv)
theorem s_set {x : Str} {pos' : Pos} (i : Nat) (hN : X.N.Nodup) (he : GE X e ge) (hx : Loc X.env.scope x := by first | exact Or.inl rfl | exact Or.inr rfl) (hi : X.N[i]? = some x := by rfl) (hs : swapsWith e (some (.Name x pos')) pos.line X.env = pure false := by rfl)
    (hf : X.fn x = true ∨ X.env.scope.names.lookup x = some .local := by first | exact .inl rfl | exact .inr rfl | assumption) : GS X P (.Assign [.Name x pos'] e pos) (qSet i ge) :=
  let ⟨_, p1, r1⟩ := he.ex; ⟨_, ps_set hN hi hx p1 hs hf, rd_asgN i r1⟩
theorem s_asg {tg : Expr} {tgt : List Nat} {gg : D → Sx → Option Sx} (hg : GG X tgt tg gg) (he : GE X e ge) (hs : swapsWithSole [tg] e pos.line X.env = pure false := by rfl) (hw : swappedStores [tg] e X.env = pure none := by rfl)
    (h1 : (assignEach [tg] X.env).map (·.2) = [assign tg X.env] := by rfl) : GS X P (.Assign [tg] e pos) (qAsg gg ge) := by
  obtain ⟨t, pa, ra⟩ := he.ex
  obtain ⟨u, pb, rb⟩ := hg.ex
  refine ⟨_, ps_asg pa pb hs hw h1, fun B A0 A F H S σ o E hP s p k e post => ?_⟩
  obtain ⟨⟨d, S1⟩, e1, e⟩ := bind_inv e
  obtain ⟨S2, e2, e⟩ := bind_inv e
  cases e
  exact ra A F H S σ d S1 _ k e1 fun A1 F1 H1 v p1 s1 k1 rv => rb A1 F1 H1 S1 σ v d S2 _ k1 rv e2 fun A2 F2 H2 σ2 p2 s2 k2 _ => post A2 F2 H2 σ2 (s.trans (s1.trans s2)) (p.trans (p1.trans p2)) k2
/-- a, b = x, y -/
def qPar (i j : Nat) (g : M (List D)) : Sx → Option Out := fun S => (g S).bind fun p => match p.1 with
  | [d, e] => some (.nx ⟨(p.2.sl.set i (some (.dat d))).set j (some (.dat e)), p.2.os⟩)
  | _ => none
/-- a list that stands in the heap and is nobody's becomes a cell -/
theorem Ok.adopt {K : PySem.W.Frag} {A : List Addr} {F G : Hp} {S : Sx} {σ : L2.St} (k : Ok K A F G S σ) {p : Addr} {vs : List V} {ds : List D} (hp : G p = none) (r : Rps K F vs ds) (hz : ds.length ≤ sizeLine) :
    Ok K (A ++ [p]) F (upd G p (.lst vs)) ⟨S.sl, S.os ++ [some (.lst ds)]⟩ σ := k.cellNew hp trivial ⟨vs, upd_same, r, hz⟩
theorem rd_asgO {K : PySem.W.Frag} {t : TE} (i : Nat) (r : RdN K t ge) : RdS K P (tAsg t (gName i)) (qOwn i ge) := by
  intro B A0 A F H S σ o E hP s p k e post
  obtain ⟨⟨d, S1⟩, e1, e⟩ := bind_inv e
  refine r A F H S σ d S1 _ k e1 fun A1 F1 G1 L vs ds p1 s1 k1 hL ed rv hz => ?_
  subst ed
  cases e
  have k2 := k1.adopt hL rv hz
  exact post _ F1 _ _ (s.trans s1) (p.trans (p1.trans (List.prefix_append _ _))) (k2.setOwn (j := S1.os.length) (by rw [k1.alen]; simp))
/-- a new list goes out, nobody's yet -/
def qRetO (g : M D) : Sx → Option Out := fun S => (g S).bind fun p => match p.1 with
  | .list ds => some (.ro p.2.os.length ⟨p.2.sl, p.2.os ++ [some (.lst ds)]⟩)
  | _ => none
theorem s_retNew (he : GN X e ge) : GS X P (.Return (some e) pos) (qRetO ge) := by
  obtain ⟨t, p1, r1⟩ := he.ex
  refine ⟨_, ps_ret p1, fun B A0 A F H S σ o E hP s p k e post => ?_⟩
  obtain ⟨⟨d, S1⟩, e1, e⟩ := bind_inv e
  refine r1 A F H S σ d S1 _ k e1 fun A1 F1 G1 L vs ds p1 s1 k1 hL ed rv hz => ?_
  subst ed
  cases e
  exact post _ F1 _ σ L (s.trans s1) (p.trans (p1.trans (List.prefix_append _ _))) (k1.adopt hL rv hz) (by rw [k1.alen]; simp)
theorem s_own {x : Str} {pos' : Pos} (i : Nat) (hN : X.N.Nodup) (he : GN X e ge) (hx : Loc X.env.scope x := by first | exact Or.inl rfl | exact Or.inr rfl) (hi : X.N[i]? = some x := by rfl) (hs : swapsWith e (some (.Name x pos')) pos.line X.env = pure false := by rfl)
    (hf : X.fn x = true ∨ X.env.scope.names.lookup x = some .local := by first | exact .inl rfl | exact .inr rfl | assumption) : GS X P (.Assign [.Name x pos'] e pos) (qOwn i ge) :=
  let ⟨_, p1, r1⟩ := he.ex; ⟨_, ps_set hN hi hx p1 hs hf, rd_asgO i r1⟩
end
section
variable {X : Cx} {P : Hp → Prop} {pos spos py : Pos} {y : Str} {elt tg iter tg1 iter1 : Expr} {ifs ifs1 : List Expr} {scope : Scope} {gi gi1 : M (List D)} {gg gg1 : D → Sx → Option Sx} {gt gt1 : M Bool} {ge : M D} {tgt tgt1 : List Nat}
/-- name = [..], on one line -/
structure Lc1 (X : Cx) (i : Nat) (st : Stmt) (g : M D) : Prop where
  ex : ∃ t, PS X st (tAsg t (gName i)) ∧ RdN X.K t g
theorem lc1 (i : Nat) (own : List (Str × Nat)) (hN : X.N.Nodup) (hi : GI X tg iter gi) (ok : BlkOk X.N X.env.scope scope own) (hg : InBlk X scope fun Y => GG Y tgt tg gg) (ht : InBlk X scope fun Y => GTs Y ifs gt) (he : InBlk X scope fun Y => GE Y elt ge)
    (hy : X.N[i]? = some y := by rfl) (hyl : X.env.scope.names.lookup y = some .local := by rfl) (hv : ∀ i ∈ tgt, i ∈ own.map (·.2) := by decide) (hc : X.calm = true := by rfl) (hs : ∀ x, foldedSetIterable iter X.env x = pure x := by intro _; rfl)
    (hsw : swapsWith (.ListComp elt [⟨tg, iter, ifs, 0⟩] scope pos) (some (.Name y py)) spos.line X.env = pure true := by exact sw_true rfl rfl rfl (by decide +kernel)) :
    Lc1 X i (.Assign [.Name y py] (.ListComp elt [⟨tg, iter, ifs, 0⟩] scope pos) spos) (gLc gi gg gt ge (own.map (·.2))) :=
  ⟨_, ps_setLc hc hN hy hyl hsw hi.pi ok (fun s H C cl fp => pg_fr (hg s H C cl fp).pg) (fun s H C cl fp => pts_fr (ht s H C cl fp).pts) (fun s H C cl fp => pe_fr (he s H C cl fp).pe) hs, rd_lc rd_iof rd_gof rd_tof rd_of hv⟩
theorem s_setLc {i : Nat} {st : Stmt} (h : Lc1 X i st ge) : GS X P st (qSet i ge) := let ⟨_, p, r⟩ := h.ex; ⟨_, p, rd_asgN i r.e⟩
end

/-! ### new lists -/
section
variable {X : Cx} {pos p : Pos} {a b e : Expr} {es : List Expr} {ga gb : M D} {gs : M (List D)}
theorem n_lst (hs : GA X es gs) : GN X (.List es pos) (gLst gs) := by
  obtain ⟨u, pb, rb⟩ := hs.ex
  refine ⟨_, pe_lst pb, fun A F H S σ d S' Q k e post => ?_⟩
  obtain ⟨⟨x, S1⟩, h1, e⟩ := bind_inv e
  simp only at e
  split at e
  · rename_i hz
    cases e
    exact rb A F H S σ x _ _ k h1 fun A1 F1 H1 vs p1 s1 k1 r1 => ⟨by rw [r1.length]; exact hz, fun p hp => post A1 F1 H1 p vs x p1 s1 k1 hp rfl r1 hz⟩
  · cases e
/-- [x] * n -/
def gRep (f : D → D → Option D) (ga gb : M D) : M D := fun S => (gBin f ga gb S).bind fun p => match p.1 with
  | .list ds => some (.list ds, p.2)
  | _ => none
theorem n_rep (ha : GE X a ga) (hb : GE X b gb) : GN X (.BinOp a .Mult b pos) (gRep dMul ga gb) := by
  obtain ⟨_, pa, ra⟩ := ha.ex
  obtain ⟨_, pb, rb⟩ := hb.ex
  refine ⟨_, pe_op op_mulAny pa pb, fun A F H S σ d S' Q k e post => ?_⟩
  obtain ⟨⟨z, S3⟩, h0, e⟩ := bind_inv e
  obtain ⟨⟨x, S1⟩, h1, h0⟩ := bind_inv h0
  obtain ⟨⟨y, S2⟩, h2, h0⟩ := bind_inv h0
  obtain ⟨z', h3, h0⟩ := bind_inv h0
  cases h0
  refine ra A F H S σ x S1 _ k h1 fun A1 F1 H1 v1 p1 s1 k1 r1 => rb A1 F1 H1 S1 σ y _ _ k1 h2 fun A2 F2 H2 v2 p2 s2 k2 r2 => ?_
  cases z <;> simp only at e <;> cases e
  rename_i zs
  cases x <;> cases y <;> simp only [dMul] at h3 <;> try cases h3
  · split at h3 <;> cases h3
  · split at h3
    · rename_i hz
      cases h3
      obtain ⟨a, xs, rfl, g1, g2, _⟩ := rp_list_inv r1
      cases rp_int_inv r2
      refine .inr ⟨a, _, xs, rfl, rfl, (s2.trans k2.sub.same.t).old _ _ g1 trivial, hz.1, hz.2.1, by rw [g2.length]; exact hz.2.2, fun p hp => ?_⟩
      exact post A2 F2 H2 p _ _ (p1.trans p2) (s1.trans s2) k2 hp rfl ((Rps.mono s2 _ _ g2).rep _) (by rw [PyProof.Rows.lm_len_rep_flat, Nat.mul_comm]; exact hz.2.2)
    · cases h3
end
end Fu

set_option maxHeartbeats 4000000
namespace Fu
open PySem PySem.Spec PyProof.Rows L2 RZ
variable [TabsC]

/-! ### lists that are written: items, length, comparisons -/
def ownOf (S : Sx) (i : Nat) : Option (Nat × List D) := match S.sl[i]? with
  | some (some (.own j)) => match S.os[j]? with
    | some (some (.lst cs)) => some (j, cs)
    | _ => none
  | _ => none
theorem own_at {K : PySem.W.Frag} {A : List Addr} {F H : Hp} {S : Sx} {σ : L2.St} {i j : Nat} {cs : List D} (k : Ok K A F H S σ) (h : ownOf S i = some (j, cs)) :
    ∃ a vs, S.sl[i]? = some (some (.own j)) ∧ S.os[j]? = some (some (.lst cs)) ∧ A[j]? = some a ∧ σ[i]? = some (some (.ref a)) ∧ F a = none ∧ H a = some (.lst vs) ∧ Rps K F vs cs ∧ cs.length ≤ sizeLine := by
  unfold ownOf at h
  split at h
  · rename_i j' ej
    split at h
    · rename_i cs' ec
      cases h
      obtain ⟨a, ha, ev⟩ := k.oslot i _ ej
      obtain ⟨a', ha', fa, vs, hv, r, hz⟩ := k.cell _ _ ec
      rw [ha] at ha'; cases ha'
      exact ⟨a, vs, ej, ec, ha, ev, fa, hv, r, hz⟩
    · cases h
  · cases h
/-- behind an expression: the cell as it stands by then -/
def cellOf (S : Sx) (j : Nat) : Option (List D) := match S.os[j]? with
  | some (some (.lst cs)) => some cs
  | _ => none
theorem cell_at {K : PySem.W.Frag} {A : List Addr} {F H : Hp} {S : Sx} {σ : L2.St} {j : Nat} {cs : List D} {a : Addr} (k : Ok K A F H S σ) (h : cellOf S j = some cs) (ha : A[j]? = some a) :
    ∃ vs, S.os[j]? = some (some (.lst cs)) ∧ F a = none ∧ H a = some (.lst vs) ∧ Rps K F vs cs ∧ cs.length ≤ sizeLine := by
  unfold cellOf at h
  split at h
  · rename_i cs' ec
    cases h
    obtain ⟨a', ha', fa, vs, hv, r, hz⟩ := k.cell _ _ ec
    rw [ha] at ha'; cases ha'
    exact ⟨vs, ec, fa, hv, r, hz⟩
  · cases h
section
variable {X : Cx} {P : Hp → Prop} {pos py p p2 apos : Pos} {y : Str} {b e : Expr} {es : List Expr} {gb ge : M D} {gs : M (List D)}
def gIxO (i : Nat) (gb : M D) : M D := fun S => (ownOf S i).bind fun o => (gb S).bind fun p => match p.1 with
  | .int n => (cellOf p.2 o.1).bind fun cs => (atI cs n).bind fun d => some (d, p.2)
  | _ => none
theorem e_ixO (i : Nat) (hb : GE X b gb) (hN : X.N[i]? = some y := by rfl) (hv : Vis X.env.scope y := by first | exact Or.inl rfl | exact Or.inr (Or.inl rfl) | exact Or.inr (Or.inr rfl)) (hs : PlainIx b := by exact fun _ _ => rfl) (hdy : (y == ("__debug__" : Str)) = false := by decide) (hcd : (y == ("__classdict__" : Str)) = false := by decide) :
    GE X (.Subscript (.Name y py) b pos) (gIxO i gb) := by
  obtain ⟨u, pb, rb⟩ := hb.ex
  refine ⟨_, pe_ix ix_list (pe_var hN hv hdy hcd) pb hs, fun A F H S σ d S' Q k h post => ?_⟩
  obtain ⟨⟨j, cs0⟩, e0, h⟩ := bind_inv h
  obtain ⟨⟨x, S1⟩, e1, h⟩ := bind_inv h
  obtain ⟨a, vs0, _, _, ha, ev, _⟩ := own_at k e0
  refine ⟨_, ev, rb A F H S σ x S1 _ k e1 fun A1 F1 H1 v p1 s1 k1 r1 => ?_⟩
  cases x <;> simp only at h <;> try cases h
  rename_i n
  obtain ⟨cs, e2, h⟩ := bind_inv h
  obtain ⟨d', e3, h⟩ := bind_inv h
  cases h
  obtain ⟨vs, _, _, hv', r, _⟩ := cell_at k1 e2 (prefix_at p1 ha)
  cases rp_int_inv r1
  obtain ⟨w, ew, rw'⟩ := rps_atI r e3
  exact ⟨a, vs, _, w, rfl, rfl, SqL.of hv', ew, post A1 F1 H1 w p1 s1 k1 rw'⟩
def gLenO (i : Nat) : M D := fun S => (ownOf S i).bind fun o => some (.int o.2.length, S)
theorem e_lenO (i : Nat) (hm : X.mg "len" = none) (hN : X.N[i]? = some y := by rfl) (hv : Vis X.env.scope y := by first | exact Or.inl rfl | exact Or.inr (Or.inl rfl) | exact Or.inr (Or.inr rfl)) (hdy : (y == ("__debug__" : Str)) = false := by decide) (hcd : (y == ("__classdict__" : Str)) = false := by decide)
    (hg : Gl X "len" := by rfl) (he : starEach [.Name y py] X.env = (false, eval (.Name y py) X.env) :: starEach [] X.env := by rfl) : GE X (.Call (.Name "len" p) [.Name y py] [] pos) (gLenO i) := by
  refine ⟨_, pe_callB call_len hg hm PySem.boot_len (pa_cons (pe_var hN hv hdy hcd) pa_nil he) (by decide) (by decide) he (by rfl), fun A F H S σ d S' Q k h post => ?_⟩
  obtain ⟨⟨j, cs⟩, e0, h⟩ := bind_inv h
  cases h
  obtain ⟨a, vs, _, _, ha, ev, _, hv', r, _⟩ := own_at k e0
  exact ⟨_, ev, _, _, rfl, .inl ⟨vs, SqL.of hv', r.length.symm⟩, post A F H _ (List.prefix_refl _) (SameT.refl F) k (.int _)⟩
/-- a comparison by the heap as it stands, its answer a truth -/
def RdB (K : PySem.W.Frag) (r : R2) (f : D → D → Option D) : Prop := ∀ (H : Hp) x y d e z (Q : VK), Rp K H x d → Rp K H y e → f d e = some z → (∀ b, z = .bool b → Q (.bl b) H) → r x y H Q
theorem rb_eq {K : PySem.W.Frag} : RdB K (rEqAny K) dEq := by
  intro H x y d e z Q rx ry h post
  unfold dEq at h
  split at h
  · rename_i c
    cases h
    exact .inl ⟨d, e, rx.dpH (SameT.refl H) c.1, ry.dpH (SameT.refl H) c.2, c.1, c.2, post _ rfl⟩
  · obtain ⟨b, h1, rfl⟩ := Option.map_eq_some_iff.mp h
    obtain ⟨u, v, rfl, rfl, rfl⟩ := strEq_inv h1
    obtain ⟨rfl, _⟩ := rp_str_inv rx
    obtain ⟨rfl, _⟩ := rp_str_inv ry
    exact .inr ⟨rfl, by rw [strV_eq]; exact post _ rfl⟩
/-- own on the left, own on the right -/
def gOL (f : D → D → Option D) (i : Nat) (gb : M D) : M D := fun S => (ownOf S i).bind fun o => (gb S).bind fun p => (cellOf p.2 o.1).bind fun cs => match f (.list cs) p.1 with
  | some (.bool b) => some (.bool b, p.2)
  | _ => none
def gOR (f : D → D → Option D) (gb : M D) (i : Nat) : M D := fun S => (gb S).bind fun p => (ownOf p.2 i).bind fun o => match f p.1 (.list o.2) with
  | some (.bool b) => some (.bool b, p.2)
  | _ => none
theorem rp_cell {K : PySem.W.Frag} {F H : Hp} {a : Addr} {vs : List V} {cs : List D} (s : SameT F H) (h : H a = some (.lst vs)) (r : Rps K F vs cs) (hz : cs.length ≤ sizeLine) : Rp K H (.ref a) (.list cs) := .lst h (Rps.mono s _ _ r) hz
theorem rd_OL {K : PySem.W.Frag} {r : R2} {f : D → D → Option D} {tb : TE} (i : Nat) (hf : RdB K r f) (rb : RdE K tb gb) : RdE K (tOp r (tVar i) tb) (gOL f i gb) := by
  intro A F H S σ d S' Q k h post
  obtain ⟨⟨j, cs0⟩, e0, h⟩ := bind_inv h
  obtain ⟨⟨x, S1⟩, e1, h⟩ := bind_inv h
  obtain ⟨cs, e2, h⟩ := bind_inv h
  obtain ⟨a, vs0, _, _, ha, ev, _⟩ := own_at k e0
  refine ⟨_, ev, rb A F H S σ x S1 _ k e1 fun A1 F1 H1 v p1 s1 k1 r1 => ?_⟩
  obtain ⟨vs, _, _, hv', rr, hz⟩ := cell_at k1 e2 (prefix_at p1 ha)
  simp only at h
  split at h
  · rename_i b hb
    cases h
    exact hf H1 _ _ _ _ _ Q (rp_cell k1.sub.same.t hv' rr hz) (r1.mono k1.sub.same.t _ _) hb fun b' eb => by cases eb; exact post A1 F1 H1 _ p1 s1 k1 (.bl _)
  · cases h
theorem t_eqO (i : Nat) (hu : X.A.units + 64 < cLine) (hb : GE X b gb) (hN : X.N[i]? = some y := by rfl) (hv : Vis X.env.scope y := by first | exact Or.inl rfl | exact Or.inr (Or.inl rfl) | exact Or.inr (Or.inr rfl)) (hdy : (y == ("__debug__" : Str)) = false := by decide) (hcd : (y == ("__classdict__" : Str)) = false := by decide) :
    GT X (.Compare (.Name y py) [.Eq] [b] pos) (gB (gOL dEq i gb)) := let ⟨_, pb, rb⟩ := hb.ex; ⟨_, pt_cmpR (op_eqAny hu) (pe_var hN hv hdy hcd) pb (nomark _), rd_test (rd_OL i rb_eq rb)⟩
/-! ### lists that are written: append, extend, pop, xs[k] = v -/
def setCell (S : Sx) (j : Nat) (cs : List D) : Sx := ⟨S.sl, S.os.set j (some (.lst cs))⟩
/-- xs.append(e), its value None -/
def gApp (i : Nat) (ge : M D) : M D := fun S => (ownOf S i).bind fun o => (ge S).bind fun p => (cellOf p.2 o.1).bind fun cs => if cs.length < sizeLine then some (.none, setCell p.2 o.1 (cs ++ [p.1])) else none
theorem e_append (i : Nat) (he : GE X e ge) (hN : X.N[i]? = some y := by rfl) (hv : Vis X.env.scope y := by first | exact Or.inl rfl | exact Or.inr (Or.inl rfl) | exact Or.inr (Or.inr rfl)) (hdy : (y == ("__debug__" : Str)) = false := by decide) (hcd : (y == ("__classdict__" : Str)) = false := by decide)
    (hbase : attributeBase (.Name y py) "append" X.env (eval (.Name y py) X.env) = eval (.Name y py) X.env := by rfl)
    (hfew : ((backTo pos (starEach [e] X.env)).all (fun x => !x.1) && (backToKw pos (keywordEach [] X.env)).all (fun x => x.1.isSome) && decide (([e] : List Expr).length + ([] : List Keyword).length + (if ([] : List Keyword).isEmpty then 0 else 1) < 30)) = true := by rfl)
    (hline : (apos.endLine == pos.line) = true := by rfl) (hst : starEach [e] X.env = (false, eval e X.env) :: starEach [] X.env := by rfl) : GE X (.Call (.Attribute (.Name y py) "append" apos) [e] [] pos) (gApp i ge) := by
  obtain ⟨t, pa, ra⟩ := he.ex
  refine ⟨_, pe_bm PySem.F.plainAttrs_list PySem.F.slot_list_append PySem.F.type_list_append mt_append (pe_var hN hv hdy hcd) (pa_cons pa pa_nil hst) hbase hfew hline hst (by rfl), fun A F H S σ d S' Q k h post => ?_⟩
  obtain ⟨⟨j, cs0⟩, e0, h⟩ := bind_inv h
  obtain ⟨⟨x, S1⟩, e1, h⟩ := bind_inv h
  obtain ⟨cs, e2, h⟩ := bind_inv h
  simp only at h
  split at h
  · rename_i hlt
    cases h
    obtain ⟨a, vs0, _, _, ha, ev, _, hv0, _, _⟩ := own_at k e0
    refine ⟨_, ev, .inl ⟨rfl, _, SqL.of hv0⟩, ra A F H S σ x S1 _ k e1 fun A1 F1 H1 v p1 s1 k1 r1 => ?_⟩
    obtain ⟨vs, ec, fa, hv', rr, hz⟩ := cell_at k1 e2 (prefix_at p1 ha)
    refine ⟨a, vs, v, rfl, rfl, hv', by rw [rr.length]; exact hlt, ?_⟩
    exact post A1 F1 _ _ p1 s1 (k1.cellSet ec (prefix_at p1 ha) trivial ⟨_, upd_same, rr.append (.cons r1 .nil), by rw [List.length_append]; exact hlt⟩) .non
  · cases h
def gPopAt (i : Nat) (ge : M D) : M D := fun S => (ownOf S i).bind fun o => (ge S).bind fun p => (cellOf p.2 o.1).bind fun cs => match p.1 with
  | .int n => if 0 ≤ n ∧ n < cs.length then (cs[n.toNat]?).bind fun d => some (d, setCell p.2 o.1 (cs.eraseIdx n.toNat)) else none
  | _ => none
theorem e_popAt (i : Nat) (he : GE X e ge) (hN : X.N[i]? = some y := by rfl) (hv : Vis X.env.scope y := by first | exact Or.inl rfl | exact Or.inr (Or.inl rfl) | exact Or.inr (Or.inr rfl)) (hdy : (y == ("__debug__" : Str)) = false := by decide) (hcd : (y == ("__classdict__" : Str)) = false := by decide)
    (hbase : attributeBase (.Name y py) "pop" X.env (eval (.Name y py) X.env) = eval (.Name y py) X.env := by rfl)
    (hfew : ((backTo pos (starEach [e] X.env)).all (fun x => !x.1) && (backToKw pos (keywordEach [] X.env)).all (fun x => x.1.isSome) && decide (([e] : List Expr).length + ([] : List Keyword).length + (if ([] : List Keyword).isEmpty then 0 else 1) < 30)) = true := by rfl)
    (hline : (apos.endLine == pos.line) = true := by rfl) (hst : starEach [e] X.env = (false, eval e X.env) :: starEach [] X.env := by rfl) : GE X (.Call (.Attribute (.Name y py) "pop" apos) [e] [] pos) (gPopAt i ge) := by
  obtain ⟨t, pa, ra⟩ := he.ex
  refine ⟨_, pe_bm PySem.F.plainAttrs_list PySem.F.slot_list_pop PySem.F.type_list_pop mt_popAt (pe_var hN hv hdy hcd) (pa_cons pa pa_nil hst) hbase hfew hline hst (by rfl), fun A F H S σ d S' Q k h post => ?_⟩
  obtain ⟨⟨j, cs0⟩, e0, h⟩ := bind_inv h
  obtain ⟨⟨x, S1⟩, e1, h⟩ := bind_inv h
  obtain ⟨cs, e2, h⟩ := bind_inv h
  cases x with
  | int n =>
    simp only at h
    split at h
    · rename_i hn
      obtain ⟨d', e3, h⟩ := bind_inv h
      cases h
      obtain ⟨a, vs0, _, _, ha, ev, _, hv0, _, _⟩ := own_at k e0
      refine ⟨_, ev, .inl ⟨rfl, _, SqL.of hv0⟩, ra A F H S σ _ S1 _ k e1 fun A1 F1 H1 v p1 s1 k1 r1 => ?_⟩
      obtain ⟨vs, ec, fa, hv', rr, hz⟩ := cell_at k1 e2 (prefix_at p1 ha)
      cases rp_int_inv r1
      obtain ⟨w, ew, rw'⟩ := rr.get e3
      have hl := line_int
      refine ⟨a, vs, n, n.toNat, w, rfl, rfl, hv', by omega, by omega, seqIndex_of hn.1 (by rw [rr.length]; exact hn.2), ew, ?_⟩
      refine post A1 F1 _ w p1 s1 (k1.cellSet ec (prefix_at p1 ha) trivial ⟨_, upd_same, rr.erase _, ?_⟩) rw'
      have := len_erase cs n.toNat
      omega
    · cases h
  | _ => cases h
/-- xs[k] = v -/
def qSetO (i : Nat) (gb ge : M D) : Sx → Option Out := fun S => (ge S).bind fun p => (ownOf p.2 i).bind fun o => (gb p.2).bind fun q => match q.1 with
  | .int n => (cellOf q.2 o.1).bind fun cs => (ixN cs.length n).bind fun m => some (.nx (setCell q.2 o.1 (cs.set m p.1)))
  | _ => none
theorem s_setO {spos : Pos} (i : Nat) (hb : GE X b gb) (he : GE X e ge) (hN : X.N[i]? = some y := by rfl) (hv : Vis X.env.scope y := by first | exact Or.inl rfl | exact Or.inr (Or.inl rfl) | exact Or.inr (Or.inr rfl)) (hdy : (y == ("__debug__" : Str)) = false := by decide) (hcd : (y == ("__classdict__" : Str)) = false := by decide)
    (ha : ∀ v, assign (.Subscript (.Name y py) b pos) X.env v = (do
      let ov ← holding [v] (eval (.Name y py) X.env)
      let iv ← holding [v, ov] (eval b X.env)
      standAt pos
      holding [v, ov, iv] (setItem ov iv v)
      release [v, ov, iv] []) := by intro _; rfl)
    (hs : swapsWithSole [.Subscript (.Name y py) b pos] e spos.line X.env = pure false := by rfl) (hw : swappedStores [.Subscript (.Name y py) b pos] e X.env = pure none := by rfl)
    (h1 : (assignEach [.Subscript (.Name y py) b pos] X.env).map (·.2) = [assign (.Subscript (.Name y py) b pos) X.env] := by rfl) : GS X P (.Assign [.Subscript (.Name y py) b pos] e spos) (qSetO i gb ge) := by
  obtain ⟨t, pe, re⟩ := he.ex
  obtain ⟨u, pb, rb⟩ := hb.ex
  refine ⟨_, ps_asg pe (pg_sub (pe_var hN hv hdy hcd) pb set_list ha) hs hw h1, fun B A0 A F H S σ o E hP s p k h post => ?_⟩
  obtain ⟨⟨d, S1⟩, e1, h⟩ := bind_inv h
  obtain ⟨⟨j, cs0⟩, e0, h⟩ := bind_inv h
  obtain ⟨⟨x, S2⟩, e2, h⟩ := bind_inv h
  cases x <;> simp only at h <;> try cases h
  rename_i n
  obtain ⟨cs, e3, h⟩ := bind_inv h
  obtain ⟨m, e4, h⟩ := bind_inv h
  cases h
  refine re A F H S σ d S1 _ k e1 fun A1 F1 H1 v p1 s1 k1 r1 => ?_
  obtain ⟨a, vs0, _, _, ha', ev, _, hv0, _, _⟩ := own_at k1 e0
  refine ⟨_, ev, rb A1 F1 H1 S1 σ _ S2 _ k1 e2 fun A2 F2 H2 w p2 s2 k2 r2 => ?_⟩
  cases rp_int_inv r2
  obtain ⟨vs, ec, fa, hv', rr, hz⟩ := cell_at k2 e3 (prefix_at p2 ha')
  refine ⟨a, vs, n, m, rfl, rfl, hv', by rw [rr.length]; exact e4, ?_⟩
  exact post A2 F2 _ _ (s.trans (s1.trans s2)) (p.trans (p1.trans p2)) (k2.cellSet ec (prefix_at p2 ha') trivial ⟨_, upd_same, Rps.set _ (r1.mono s2 _ _) rr, by rw [List.length_set]; exact hz⟩)

/-! ### x += e of numbers -/
end

/-! ### loops -/
def gLoop (gg : D → Sx → Option Sx) (body : Sx → Option Out) : List D → Sx → Option Out
  | [], S => some (.nx S)
  | d :: ds, S => (gg d S).bind fun S1 => (body S1).bind fun o => match o with
    | .nx S2 => gLoop gg body ds S2
    | .ct S2 => gLoop gg body ds S2
    | .bk S2 => some (.nx S2)
    | .rt d S2 => some (.rt d S2)
    | .ro j S2 => some (.ro j S2)
    | .rs r S2 => some (.rs r S2)
def qFor (gi : M (List D)) (gg : D → Sx → Option Sx) (body : Sx → Option Out) : Sx → Option Out := fun S => (gi S).bind fun p => gLoop gg body p.1 p.2
section
variable {K : PySem.W.Frag} {P : Hp → Prop}
/-- the loop, its walk over a heap W that B holds -/
theorem rd_loop {g : TG} {tb : TS} {gg : D → Sx → Option Sx} {body : Sx → Option Out} {tgt : List Nat} (hg : RdG K tgt g gg) (hb : RdS K P tb body) {B W : Hp} {A0 : List Addr} {J : It} {ds : List D} {E : Ends} {o : Out} (hP : P B) (w : Walk K W J ds) (hW : SameT W B)
    (post : OutP K B A0 o E) {A : List Addr} {F H : Hp} {S : Sx} {σ : L2.St} (s : SameT B F) (p : A0 <+: A) (k : Ok K A F H S σ) (e : gLoop gg body ds S = some o) :
    ∃ Wi : Nat → Nat → L2.St → Hp → Prop, (∃ m, Wi 0 m σ H) ∧ ∀ i m σ H, Wi i m σ H →
      (J.stop i H ∧ E.nx σ H) ∨ (J.go i H ∧ ∃ N : L2.St → Hp → Prop, (∀ σ' H', N σ' H' → ∃ m', m' < m ∧ Wi (i + 1) m' σ' H') ∧ ∀ x H', J.yld i H x H' → g x σ H' fun σ2 H2 => tb { E with nx := N, ct := N, bk := E.nx } σ2 H2) := by
  refine ⟨fun i m σ H => m = ds.length - i ∧ i ≤ ds.length ∧ ∃ A F S, SameT B F ∧ A0 <+: A ∧ Ok K A F H S σ ∧ gLoop gg body (ds.drop i) S = some o, ⟨ds.length, by simp, Nat.zero_le _, A, F, S, s, p, k, by simpa using e⟩, ?_⟩
  rintro i m σ1 H1 ⟨rfl, hil, A1, F1, S1, s1, p1, k1, e1⟩
  have sWH : SameT W H1 := (hW.trans s1).trans k1.sub.same.t
  by_cases hlt : i < ds.length
  · refine .inr ⟨w.go i _ sWH hlt, fun σ' H' => i + 1 ≤ ds.length ∧ ∃ A F S, SameT B F ∧ A0 <+: A ∧ Ok K A F H' S σ' ∧ gLoop gg body (ds.drop (i + 1)) S = some o, fun σ' H' h => ⟨ds.length - (i + 1), by omega, rfl, h⟩, fun x H' hy => ?_⟩
    rw [List.drop_eq_getElem_cons hlt] at e1
    obtain ⟨S2, e2, e1⟩ := bind_inv (show (gg ds[i] S1).bind _ = _ from e1)
    obtain ⟨o2, e3, e1⟩ := bind_inv e1
    have key : ∃ F2, SameT F1 F2 ∧ Ok K A1 F2 H' S1 σ1 ∧ Rp K F2 x ds[i] := by
      rcases w.yld i ds[i] _ x H' sWH (List.getElem?_eq_getElem hlt) hy with ⟨rfl, r⟩ | ⟨T, ws, es, rfl, hT, rfl, ed, r, hz2⟩
      · exact ⟨F1, SameT.refl _, k1, (r.mono hW _ _).mono s1 _ _⟩
      · obtain ⟨s3, k3, r3⟩ := k1.newTup hT (Rps.mono s1 _ _ (Rps.mono hW _ _ r)) hz2
        exact ⟨_, s3, k3, by rw [ed]; exact r3⟩
    obtain ⟨F2, s2, k2, rx⟩ := key
    refine hg A1 F2 H' S1 σ1 x ds[i] S2 _ k2 rx e2 fun A3 F3 H3 σ3 p3 s3 k3 _ => ?_
    refine hb B A0 A3 F3 H3 S2 σ3 o2 _ hP (s1.trans (s2.trans s3)) (p1.trans p3) k3 e3 ?_
    cases o2 with
    | nx S4 => exact fun A4 F4 H4 σ4 s4 p4 k4 => ⟨hlt, A4, F4, S4, s4, p4, k4, e1⟩
    | ct S4 => exact fun A4 F4 H4 σ4 s4 p4 k4 => ⟨hlt, A4, F4, S4, s4, p4, k4, e1⟩
    | bk S4 => cases e1; exact post
    | rt d S4 => cases e1; exact post
    | ro j S4 => cases e1; exact post
    | rs r S4 => cases e1; exact post
  · have ei : i = ds.length := by omega
    subst ei
    rw [List.drop_length] at e1
    cases e1
    exact .inl ⟨w.stop _ _ sWH (Nat.le_refl _), post A1 F1 H1 σ1 s1 p1 k1⟩
end
section
variable {X : Cx} {P : Hp → Prop} {pos : Pos} {tg iter : Expr} {body : List Stmt} {gi : M (List D)} {gg : D → Sx → Option Sx} {g : Sx → Option Out} {tgt : List Nat}
theorem same_outp {K : PySem.W.Frag} {B B' : Hp} {A0 A0' : List Addr} {o : Out} {E : Ends} (s : SameT B B') (p : A0 <+: A0') (h : OutP K B A0 o E) : OutP K B' A0' o E := by
  cases o with
  | nx S => exact fun A F H σ s1 p1 k => h A F H σ (s.trans s1) (p.trans p1) k
  | rt d S => exact fun A F H σ v s1 p1 k => h A F H σ v (s.trans s1) (p.trans p1) k
  | bk S => exact fun A F H σ s1 p1 k => h A F H σ (s.trans s1) (p.trans p1) k
  | ct S => exact fun A F H σ s1 p1 k => h A F H σ (s.trans s1) (p.trans p1) k
  | ro j S => exact fun A F H σ a s1 p1 k => h A F H σ a (s.trans s1) (p.trans p1) k
  | rs r S => exact fun A F H σ v s1 p1 k => h A F H σ v (s.trans s1) (p.trans p1) k
/-- over data that stand: the body may be judged over any base -/
theorem s_for (hp : PassesOwn (model X.prog X.w) X.A X.env X.xe) (hi : GI X tg iter gi) (hg : GG X tgt tg gg) (hb : GSs X P body g) (hPall : ∀ B, P B) (hc : X.calm = true := by rfl) (hs : ∀ x, foldedSetIterable iter X.env x = pure x := by intro _; rfl) : GS X P (.For tg iter body [] pos) (qFor gi gg g) := by
  obtain ⟨t, pi, ri⟩ := hi.ex
  obtain ⟨u, pg, rg⟩ := hg.ex
  obtain ⟨v, pb, rb⟩ := hb.ex
  refine ⟨_, ps_for hp hc pi pg pb hs, fun B A0 A F H S σ o E hP s p k e post => ?_⟩
  obtain ⟨⟨ds, S1⟩, e1, e⟩ := bind_inv e
  exact ri A F H S σ ds S1 _ k e1 fun A1 F1 H1 J p1 s1 k1 w _ => rd_loop rg rb (hPall F1) w (SameT.refl F1) (same_outp (s.trans s1) p post) (SameT.refl F1) (p1) k1 e
/-- over numbers -/
theorem s_for0 (hp : PassesOwn (model X.prog X.w) X.A X.env X.xe) (hi : GI0 X tg iter gi) (hg : GG X tgt tg gg) (hb : GSs X P body g) (hc : X.calm = true := by rfl) (hs : ∀ x, foldedSetIterable iter X.env x = pure x := by intro _; rfl) : GS X P (.For tg iter body [] pos) (qFor gi gg g) := by
  obtain ⟨t, pi, ri⟩ := hi.ex
  obtain ⟨u, pg, rg⟩ := hg.ex
  obtain ⟨v, pb, rb⟩ := hb.ex
  refine ⟨_, ps_for hp hc pi pg pb hs, fun B A0 A F H S σ o E hP s p k e post => ?_⟩
  obtain ⟨⟨ds, S1⟩, e1, e⟩ := bind_inv e
  exact ri A F H S σ ds S1 _ k e1 fun A1 F1 H1 J p1 s1 k1 w => rd_loop rg rb hP w (SameT.empty _) post (s.trans s1) (p.trans p1) k1 e
end
end Fu

set_option maxHeartbeats 4000000
namespace Fu
open PySem PySem.Spec PyProof.Rows L2 RZ
variable [TabsC]

/-! ### defs -/
def initS (n : Nat) (ds : List D) : List (Option R) := ds.map (fun d => some (.dat d)) ++ List.replicate (n - ds.length) none
/-- a def's value by data -/
def mF (n : Nat) (g : Sx → Option Out) : List D → Option D := fun ds => (g ⟨initS n ds, []⟩).bind fun o => match o with
  | .nx _ => some .none
  | .rt d _ => some d
  | _ => none
/-- .. where the first argument is a list that it writes -/
def mIO (n : Nat) (g : Sx → Option Out) : List D → List D → Option (D × List D) := fun cs ds => (g ⟨some (.own 0) :: initS (n - 1) ds, [some (.lst cs)]⟩).bind fun o => match o with
  | .nx S => (cellOf S 0).bind fun c => some (.none, c)
  | .rt d S => (cellOf S 0).bind fun c => some (d, c)
  | _ => none
theorem initS_in {n : Nat} {ds : List D} {i : Nat} {r : R} (h : (initS n ds)[i]? = some (some r)) : ∃ d, ds[i]? = some d ∧ r = .dat d := by
  unfold initS at h
  by_cases hi : i < ds.length
  · rw [List.getElem?_append_left (by simpa using hi), List.getElem?_map] at h
    obtain ⟨d', e1, e2⟩ := Option.map_eq_some_iff.mp h
    cases e2
    exact ⟨d', e1, rfl⟩
  · rw [List.getElem?_append_right (by simp; omega)] at h
    have := List.mem_of_getElem? h
    rw [List.mem_replicate] at this
    exact nomatch this.2
theorem start_at {N : List Str} {vs : List V} {i : Nat} {v : V} (h : vs[i]? = some v) : (L2.start N vs)[i]? = some (some v) := by
  unfold L2.start
  rw [List.getElem?_append_left (by rw [List.length_map]; exact (List.getElem?_eq_some_iff.mp h).1), List.getElem?_map, h]
  rfl
theorem start_dat {K : PySem.W.Frag} {H : Hp} {N : List Str} {vs : List V} {ds : List D} (r : Rps K H vs ds) (hl : vs.length ≤ N.length) {H' : Hp} (s : Sub H H') (tb : LamX.Tabs TabsC.T H) : Ok K [] H H' ⟨initS N.length ds, []⟩ (L2.start N vs) := by
  refine ⟨s, ?_, rfl, List.nodup_nil, fun i q h => ?_, fun j c h => by simp at h, fun a h => by simp at h, tb⟩
  · simp [initS, L2.start, r.length]
  · obtain ⟨d, e1, rfl⟩ := initS_in h
    obtain ⟨v, ev, rv⟩ := r.get e1
    exact ⟨v, start_at ev, .dat rv⟩
section
variable {P : Program} {w : World} {K : PySem.W.Frag} {mg : Str → Option Value} {base : Heap} {x qual : Str} {st : Stmt} {f : Addr} {fd : FuncData} {N ps : List Str} {k n : Nat} {g : Sx → Option Out}
abbrev AnyB : Hp → Prop := fun _ => True
/-- the context of the def's body -/
abbrev cxF (P : Program) (w : World) (K : PySem.W.Frag) (mg : Str → Option Value) (base : Heap) (N : List Str) (qual : Str) (st : Stmt) (f : Addr) (cdv : Value) (A : Around) (outer : List Env) (s : Shared) (H : Hp) (E : XK) : Cx := (cxOf CX0 P w K mg base N qual (defScope st) f cdv A outer s H E).nox
theorem fn_pure (F : Fun K x qual st f fd) (S : FnScope N ps (defScope st)) (hn : ps.length = n) (hN : n ≤ N.length)
    (body : ∀ (cdv : Value) (A : Around) (outer : List Env) (s : Shared) (H : Hp) (E : XK), Room k (A.deeper (envOfC qual (defScope st) s.heap.objs.size f cdv)) → GSs (cxF P w K mg base N qual st f cdv A outer s H E) AnyB (defBody st) g) :
    FnOk P w K mg base CX0 (k + 1) f fd ps (spF K n (mF N.length g)) := by
  refine F.ok S (spF_len hn) fun cdv A outer s H vs Q E hr h => ?_
  obtain ⟨ds, z, hd, r, e, tb, post⟩ := h
  obtain ⟨t, p, rd⟩ := (body cdv A outer s H E hr).ex
  refine ⟨t, p, ?_⟩
  obtain ⟨o, e1, e⟩ := bind_inv e
  have hl : vs.length ≤ N.length := by rw [r.length, hd]; exact hN
  refine rd H [] [] H H _ (L2.start N vs) o _ trivial (SameT.refl H) (List.prefix_refl _) (start_dat r hl (Sub.refl H) tb) e1 ?_
  cases o with
  | nx S => cases e; exact fun A1 F1 H1 σ1 s1 p1 k1 => post H1 .non (s1.trans k1.sub.same.t) .non
  | rt d S => cases e; exact fun A1 F1 H1 σ1 v s1 p1 k1 rv => post H1 v (s1.trans k1.sub.same.t) (rv.mono k1.sub.same.t _ _)
  | bk S => cases e
  | ct S => cases e
  | rs r S => cases e
  | ro j S => cases e
theorem start_own {K : PySem.W.Frag} {F : Hp} {N : List Str} {a : Addr} {xs vs : List V} {cs ds : List D} (fa : F a = none) (rc : Rps K F xs cs) (hz : cs.length ≤ sizeLine) (r : Rps K F vs ds) (hl : vs.length + 1 ≤ N.length) (tb : LamX.Tabs TabsC.T F) :
    Ok K [a] F (upd F a (.lst xs)) ⟨some (.own 0) :: initS (N.length - 1) ds, [some (.lst cs)]⟩ (L2.start N (.ref a :: vs)) := by
  obtain ⟨m, M, rfl⟩ : ∃ m M, N = m :: M := by
    cases N with
    | nil => simp at hl
    | cons m M => exact ⟨m, M, rfl⟩
  have hl' : vs.length ≤ M.length := by simpa using hl
  have k := start_dat (N := M) r hl' (sub_one fa (o := .lst xs) trivial) tb
  have es : L2.start (m :: M) (.ref a :: vs) = some (.ref a) :: L2.start M vs := by
    unfold L2.start
    simp
  rw [es]
  simp only [List.length_cons, Nat.add_sub_cancel]
  refine ⟨k.sub, by simpa using k.len, rfl, by simp, fun i r h => ?_, fun j c h => ?_, fun b h => ?_, tb⟩
  · cases i with
    | zero =>
      simp at h
      subst h
      exact ⟨_, rfl, .own rfl⟩
    | succ i =>
      obtain ⟨v, e1, r1⟩ := k.rslot i r (by simpa using h)
      exact ⟨v, by simpa using e1, r1.mono (List.nil_prefix) (SameT.refl _) _ _⟩
  · cases j with
    | zero =>
      simp at h
      subst h
      exact ⟨a, rfl, fa, xs, upd_same, rc, hz⟩
    | succ j => simp at h
  · simp at h
    subst h
    exact ⟨_, upd_same, trivial⟩
theorem fn_io (F : Fun K x qual st f fd) (S : FnScope N ps (defScope st)) (hn : ps.length = n + 1) (hN : n + 1 ≤ N.length)
    (body : ∀ (cdv : Value) (A : Around) (outer : List Env) (s : Shared) (H : Hp) (E : XK), Room k (A.deeper (envOfC qual (defScope st) s.heap.objs.size f cdv)) → GSs (cxF P w K mg base N qual st f cdv A outer s H E) AnyB (defBody st) g) :
    FnOk P w K mg base CX0 (k + 1) f fd ps (spIO K n (mIO N.length g)) := by
  refine F.ok S (spIO_len hn) fun cdv A outer s H vs Q E hr h => ?_
  obtain ⟨a, xs, rest, F0, cs, ds, r, cs', rfl, fa, rfl, hz, rc, rr, hd, e, tb, post⟩ := h
  obtain ⟨t, p, rd⟩ := (body cdv A outer s _ E hr).ex
  refine ⟨t, p, ?_⟩
  obtain ⟨o, e1, e⟩ := bind_inv e
  have hl : rest.length + 1 ≤ N.length := by rw [rr.length, hd]; exact hN
  have fin : ∀ (A1 : List Addr) (F1 H1 : Hp) (σ1 : L2.St) (S1 : Sx) (v : V) (d : D) (c : List D), SameT F0 F1 → [a] <+: A1 → Ok K A1 F1 H1 S1 σ1 → Rp K F1 v d → cellOf S1 0 = some c → (d, c) = (r, cs') → Q v H1 := by
    intro A1 F1 H1 σ1 S1 v d c s1 p1 k1 rv hc ee
    cases ee
    have ha : A1[0]? = some a := prefix_at p1 rfl
    obtain ⟨us, ec, fa1, hv, rc1, hz1⟩ := cell_at k1 hc ha
    have s2 : SameT F1 (fun b => if b = a then none else H1 b) := L2.Same.t fun b o q => by
      show (if b = a then none else H1 b) = some o
      rw [if_neg (ne_of_none q fa1)]
      exact k1.sub.same b o q
    have := post (fun b => if b = a then none else H1 b) us v (s1.trans s2) (if_pos rfl) (Rps.mono s2 _ _ rc1) hz1 (rv.mono s2 _ _)
    rwa [show upd (fun b => if b = a then none else H1 b) a (.lst us) = H1 from ?_] at this
    funext b
    by_cases hb : b = a
    · subst hb; rw [upd_same, hv]
    · rw [upd_ne hb]; exact if_neg hb
  refine rd F0 [a] [a] F0 _ _ _ o _ trivial (SameT.refl F0) (List.prefix_refl _) (start_own fa rc hz rr hl tb) e1 ?_
  cases o with
  | nx S =>
    obtain ⟨c, hc, e⟩ := bind_inv e
    exact fun A1 F1 H1 σ1 s1 p1 k1 => fin A1 F1 H1 σ1 S .non .none c s1 p1 k1 .non hc (by cases e; rfl)
  | rt d S =>
    obtain ⟨c, hc, e⟩ := bind_inv e
    exact fun A1 F1 H1 σ1 v s1 p1 k1 rv => fin A1 F1 H1 σ1 S v d c s1 p1 k1 rv hc (by cases e; rfl)
  | bk S => cases e
  | ct S => cases e
  | rs r S => cases e
  | ro j S => cases e
end
/-! ### defs that hand back a new list -/
def spN (K : PySem.W.Frag) (n : Nat) (f : List D → Option (List D)) : Sp := fun vs H Q _ => ∃ ds zs, ds.length = n ∧ Rps K H vs ds ∧ f ds = some zs ∧ LamX.Tabs TabsC.T H ∧
  ∀ F p us, SameT H F → F p = none → Rps K F us zs → zs.length ≤ sizeLine → Q (.ref p) (upd F p (.lst us))
theorem spN_len {K : PySem.W.Frag} {n : Nat} {f : List D → Option (List D)} {ps : List Str} (h : ps.length = n) : ∀ vs H Q E, spN K n f vs H Q E → vs.length = ps.length := by
  intro vs H Q E ⟨ds, z, e, r, _⟩
  rw [r.length, e, h]
def mN (n : Nat) (g : Sx → Option Out) : List D → Option (List D) := fun ds => (g ⟨initS n ds, []⟩).bind fun o => match o with
  | .ro j S => cellOf S j
  | _ => none
/-- the heap without the list at a -/
def lessH (H : Hp) (a : Addr) : Hp := fun b => if b = a then none else H b
theorem less_upd {H : Hp} {a : Addr} {o : HO} (h : H a = some o) : upd (lessH H a) a o = H := by
  funext b
  by_cases hb : b = a
  · subst hb; rw [upd_same, h]
  · rw [upd_ne hb]; exact if_neg hb
theorem less_same {K : PySem.W.Frag} {A : List Addr} {F H : Hp} {S : Sx} {σ : L2.St} (k : Ok K A F H S σ) {a : Addr} (fa : F a = none) : SameT F (lessH H a) := L2.Same.t fun b o q => by
  show (if b = a then none else H b) = some o
  rw [if_neg (ne_of_none q fa)]
  exact k.sub.same b o q
section
variable {P : Program} {w : World} {K : PySem.W.Frag} {mg : Str → Option Value} {base : Heap} {x qual : Str} {st : Stmt} {f : Addr} {fd : FuncData} {N ps : List Str} {k n : Nat} {g : Sx → Option Out}
theorem fn_new (F : Fun K x qual st f fd) (S : FnScope N ps (defScope st)) (hn : ps.length = n) (hN : n ≤ N.length)
    (body : ∀ (cdv : Value) (A : Around) (outer : List Env) (s : Shared) (H : Hp) (E : XK), Room k (A.deeper (envOfC qual (defScope st) s.heap.objs.size f cdv)) → GSs (cxF P w K mg base N qual st f cdv A outer s H E) AnyB (defBody st) g) :
    FnOk P w K mg base CX0 (k + 1) f fd ps (spN K n (mN N.length g)) := by
  refine F.ok S (spN_len hn) fun cdv A outer s H vs Q E hr h => ?_
  obtain ⟨ds, zs, hd, r, e, tb, post⟩ := h
  obtain ⟨t, p, rd⟩ := (body cdv A outer s H E hr).ex
  refine ⟨t, p, ?_⟩
  obtain ⟨o, e1, e⟩ := bind_inv e
  have hl : vs.length ≤ N.length := by rw [r.length, hd]; exact hN
  refine rd H [] [] H H _ (L2.start N vs) o _ trivial (SameT.refl H) (List.prefix_refl _) (start_dat r hl (Sub.refl H) tb) e1 ?_
  cases o with
  | nx S => cases e
  | rt d S => cases e
  | bk S => cases e
  | ct S => cases e
  | rs r S => cases e
  | ro j S =>
    intro A1 F1 H1 σ1 a s1 p1 k1 ha
    obtain ⟨us, ec, fa, hv, rc, hz⟩ := cell_at k1 e ha
    have := post (lessH H1 a) a us (s1.trans (less_same k1 fa)) (if_pos rfl) (Rps.mono (less_same k1 fa) _ _ rc) hz
    rwa [less_upd hv] at this
end
def gCallN (n : Nat) (f : List D → Option (List D)) (g : M (List D)) : M D := fun S => (g S).bind fun p => if p.1.length = n then (f p.1).bind fun z => some (.list z, p.2) else none

/-! ### the script -/
section
variable {X : Cx} {pos p p2 py : Pos} {y : Str} {lo hi : Option Expr} {gl gh : M (Option Int)}
def scrOf (S : Sx) (i : Nat) : Option (List Int) := match S.sl[i]? with
  | some (some (.scr ns)) => some ns
  | _ => none
theorem scr_at {K : PySem.W.Frag} {A : List Addr} {F H : Hp} {S : Sx} {σ : L2.St} {i : Nat} {ns : List Int} (k : Ok K A F H S σ) (h : scrOf S i = some ns) : ns.length ≤ 63 ∧ ∃ a, σ[i]? = some (some (.ref a)) ∧ SqL K F a (ns.map V.int) := by
  unfold scrOf at h
  split at h
  · rename_i ns' e
    cases h
    exact k.sslot i _ e
  · cases h
def gScrSl (i : Nat) (gl gh : M (Option Int)) : M D := fun S => (scrOf S i).bind fun ns => (gl S).bind fun q => (gh q.2).bind fun r => some (.list ((cutL ns q.1 r.1).map .int), r.2)
theorem cut_map {α β : Type} (f : α → β) (xs : List α) (lo hi : Option Int) : cutL (xs.map f) lo hi = (cutL xs lo hi).map f := by
  unfold cutL
  rw [List.length_map, List.map_take, List.map_drop]
theorem e_scrSl (i : Nat) (hl : GO X lo gl) (hh : GO X hi gh) (hN : X.N[i]? = some y := by rfl) (hv : Vis X.env.scope y := by first | exact Or.inl rfl | exact Or.inr (Or.inl rfl) | exact Or.inr (Or.inr rfl)) (hdy : (y == ("__debug__" : Str)) = false := by decide) (hcd : (y == ("__classdict__" : Str)) = false := by decide) :
    GE X (.Subscript (.Name y py) (.Slice lo hi none p2) pos) (gScrSl i gl gh) := by
  obtain ⟨_, pl, rl⟩ := hl.ex
  obtain ⟨_, ph, rh⟩ := hh.ex
  refine ⟨_, pe_slice sl_list (pe_var hN hv hdy hcd) pl ph, fun A F H S σ d S' Q k e post => ?_⟩
  obtain ⟨ns, e0, e⟩ := bind_inv e
  obtain ⟨⟨l, S2⟩, h2, e⟩ := bind_inv e
  obtain ⟨⟨u, S3⟩, h3, e⟩ := bind_inv e
  cases e
  obtain ⟨hz, a, ev, hs⟩ := scr_at k e0
  refine ⟨_, ev, rl A F H S σ l _ _ k h2 fun A2 F2 H2 p2 s2 k2 => rh A2 F2 H2 _ σ u _ _ k2 h3 fun A3 F3 H3 p3 s3 k3 => ⟨a, _, rfl, k3.sub.same.seq (s3.seq (s2.seq hs)), fun p hp => ?_⟩⟩
  have e2 : cutV (ns.map V.int) l u = (cutL ns l u).map V.int := cut_map V.int ns l u
  rw [e2]
  obtain ⟨s4, k4, r4⟩ := k3.newList hp (Rps.ints (cutL ns l u)) (by
    rw [List.length_map]
    have h1 := cutL_le ns l u
    have h2 : (63 : Nat) ≤ sizeLine := by decide
    omega)
  exact post A3 _ _ _ (p2.trans p3) (s2.trans (s3.trans s4)) k4 r4
def gScrLen (i : Nat) : M D := fun S => (scrOf S i).bind fun ns => some (.int ns.length, S)
theorem e_scrLen (i : Nat) (hm : X.mg "len" = none) (hN : X.N[i]? = some y := by rfl) (hv : Vis X.env.scope y := by first | exact Or.inl rfl | exact Or.inr (Or.inl rfl) | exact Or.inr (Or.inr rfl)) (hdy : (y == ("__debug__" : Str)) = false := by decide) (hcd : (y == ("__classdict__" : Str)) = false := by decide)
    (hg : Gl X "len" := by rfl) (he : starEach [.Name y py] X.env = (false, eval (.Name y py) X.env) :: starEach [] X.env := by rfl) : GE X (.Call (.Name "len" p) [.Name y py] [] pos) (gScrLen i) := by
  refine ⟨_, pe_callB call_len hg hm PySem.boot_len (pa_cons (pe_var hN hv hdy hcd) pa_nil he) (by decide) (by decide) he (by rfl), fun A F H S σ d S' Q k h post => ?_⟩
  obtain ⟨ns, e0, h⟩ := bind_inv h
  cases h
  obtain ⟨hz, a, ev, hs⟩ := scr_at k e0
  exact ⟨_, ev, _, _, rfl, .inl ⟨_, k.sub.same.seq hs, (List.length_map _).symm⟩, post A F H _ (List.prefix_refl _) (SameT.refl F) k (.int _)⟩
end
/-- a def of the script that hands back a new list -/
def spScrN (K : PySem.W.Frag) (f : List Int → Option (List D)) : Sp := fun vs H Q _ => ∃ a ns zs, vs = [.ref a] ∧ SqL K H a (ns.map V.int) ∧ ns.length ≤ 63 ∧ f ns = some zs ∧ LamX.Tabs TabsC.T H ∧
  ∀ F p us, SameT H F → F p = none → Rps K F us zs → zs.length ≤ sizeLine → Q (.ref p) (upd F p (.lst us))
def mScrN (n : Nat) (g : Sx → Option Out) : List Int → Option (List D) := fun ns => (g ⟨some (.scr ns) :: List.replicate (n - 1) none, []⟩).bind fun o => match o with
  | .ro j S => cellOf S j
  | _ => none
/-- the law: True -/
def mScr (n : Nat) (g : Sx → Option Out) : List Int → Option D := fun ns => (g ⟨some (.scr ns) :: List.replicate (n - 1) none, []⟩).bind fun o => match o with
  | .rt d _ => some d
  | _ => none
/-- nothing that is written stands there -/
def NoLst (B : Hp) : Prop := ∀ b xs, B b ≠ some (.lst xs)
def spLaw (K : PySem.W.Frag) (f : List Int → Option D) : Sp := fun vs H Q _ => ∃ a ns, vs = [.ref a] ∧ SqL K H a (ns.map V.int) ∧ ns.length ≤ 63 ∧ NoLst H ∧ f ns = some (.bool true) ∧ LamX.Tabs TabsC.T H ∧ ∀ H', Q (.bl true) H'
theorem start_scr {K : PySem.W.Frag} {H : Hp} {N : List Str} {a : Addr} {ns : List Int} (h : SqL K H a (ns.map V.int)) (hz : ns.length ≤ 63) (hN : 1 ≤ N.length) (tb : LamX.Tabs TabsC.T H) : Ok K [] H H ⟨some (.scr ns) :: List.replicate (N.length - 1) none, []⟩ (L2.start N [.ref a]) := by
  refine ⟨Sub.refl H, ?_, rfl, List.nodup_nil, fun i r e => ?_, fun j c e => by simp at e, fun b e => by simp at e, tb⟩
  · simp [L2.start]
  · cases i with
    | zero =>
      simp at e
      subst e
      exact ⟨_, rfl, .scr hz h⟩
    | succ i =>
      have := List.mem_of_getElem? (show (List.replicate (N.length - 1) (none : Option R))[i]? = some (some r) by simpa using e)
      rw [List.mem_replicate] at this
      exact nomatch this.2
section
variable {P : Program} {w : World} {K : PySem.W.Frag} {mg : Str → Option Value} {base : Heap} {x qual : Str} {st : Stmt} {f : Addr} {fd : FuncData} {N ps : List Str} {k n : Nat} {g : Sx → Option Out}
theorem fn_scrN (F : Fun K x qual st f fd) (S : FnScope N ps (defScope st)) (hn : ps.length = 1) (hN : 1 ≤ N.length)
    (body : ∀ (cdv : Value) (A : Around) (outer : List Env) (s : Shared) (H : Hp) (E : XK), Room k (A.deeper (envOfC qual (defScope st) s.heap.objs.size f cdv)) → GSs (cxF P w K mg base N qual st f cdv A outer s H E) AnyB (defBody st) g) :
    FnOk P w K mg base CX0 (k + 1) f fd ps (spScrN K (mScrN N.length g)) := by
  refine F.ok S (fun vs H Q E h => by obtain ⟨a, ns, zs, rfl, _⟩ := h; exact hn.symm) fun cdv A outer s H vs Q E hr h => ?_
  obtain ⟨a, ns, zs, rfl, hs, hz, e, tb, post⟩ := h
  obtain ⟨t, p, rd⟩ := (body cdv A outer s H E hr).ex
  refine ⟨t, p, ?_⟩
  obtain ⟨o, e1, e⟩ := bind_inv e
  refine rd H [] [] H H _ _ o _ trivial (SameT.refl H) (List.prefix_refl _) (start_scr hs hz hN tb) e1 ?_
  cases o with
  | nx S => cases e
  | rt d S => cases e
  | bk S => cases e
  | ct S => cases e
  | rs r S => cases e
  | ro j S =>
    intro A1 F1 H1 σ1 a s1 p1 k1 ha
    obtain ⟨us, ec, fa, hv, rc, hz⟩ := cell_at k1 e ha
    have := post (lessH H1 a) a us (s1.trans (less_same k1 fa)) (if_pos rfl) (Rps.mono (less_same k1 fa) _ _ rc) hz
    rwa [less_upd hv] at this
end

/-! ### a def by its name -/
def Has (P : Program) (w : World) (K : PySem.W.Frag) (mg : Str → Option Value) (base : Heap) (x : Str) (k : Nat) (ps : List Str) (sp : Sp) : Prop :=
  ∃ f fd, mg x = some (.ref f) ∧ PySem.W.keepIn K (.ref f) = true ∧ L2.Binds K fd ps [] ∧ FnOk P w K mg base CX0 k f fd ps sp
def DefAt (K : PySem.W.Frag) (mg : Str → Option Value) (x : Str) (st : Stmt) (ps : List Str) : Prop := ∃ f fd, mg x = some (.ref f) ∧ Fun K x x st f fd ∧ L2.Binds K fd ps []
theorem Has.imp {P : Program} {w : World} {K : PySem.W.Frag} {mg : Str → Option Value} {base : Heap} {x : Str} {k : Nat} {ps : List Str} {sp sp' : Sp} (h : Has P w K mg base x k ps sp) (i : ∀ vs H Q E, sp' vs H Q E → sp vs H Q E) : Has P w K mg base x k ps sp' :=
  let ⟨f, fd, a, b, c, F⟩ := h; ⟨f, fd, a, b, c, F.imp i⟩
section
variable {P : Program} {w : World} {K : PySem.W.Frag} {mg : Str → Option Value} {base : Heap} {x : Str} {st : Stmt} {N ps : List Str} {k n : Nat} {g : Sx → Option Out}
abbrev Body (P : Program) (w : World) (K : PySem.W.Frag) (mg : Str → Option Value) (base : Heap) (N : List Str) (x : Str) (st : Stmt) (k : Nat) (Pb : Hp → Prop) (g : Sx → Option Out) : Prop :=
  ∀ (f : Addr) (cdv : Value) (A : Around) (outer : List Env) (s : Shared) (H : Hp) (E : XK), Room k (A.deeper (envOfC x (defScope st) s.heap.objs.size f cdv)) → GSs (cxF P w K mg base N x st f cdv A outer s H E) Pb (defBody st) g
theorem has_pure (D : DefAt K mg x st ps) (S : FnScope N ps (defScope st)) (hn : ps.length = n) (hN : n ≤ N.length) (body : Body P w K mg base N x st k AnyB g) : Has P w K mg base x (k + 1) ps (spF K n (mF N.length g)) :=
  let ⟨f, fd, m, F, b⟩ := D; ⟨f, fd, m, F.kp, b, fn_pure F S hn hN (body f)⟩
theorem has_new (D : DefAt K mg x st ps) (S : FnScope N ps (defScope st)) (hn : ps.length = n) (hN : n ≤ N.length) (body : Body P w K mg base N x st k AnyB g) : Has P w K mg base x (k + 1) ps (spN K n (mN N.length g)) :=
  let ⟨f, fd, m, F, b⟩ := D; ⟨f, fd, m, F.kp, b, fn_new F S hn hN (body f)⟩
theorem has_io (D : DefAt K mg x st ps) (S : FnScope N ps (defScope st)) (hn : ps.length = n + 1) (hN : n + 1 ≤ N.length) (body : Body P w K mg base N x st k AnyB g) : Has P w K mg base x (k + 1) ps (spIO K n (mIO N.length g)) :=
  let ⟨f, fd, m, F, b⟩ := D; ⟨f, fd, m, F.kp, b, fn_io F S hn hN (body f)⟩
theorem has_scrN (D : DefAt K mg x st ps) (S : FnScope N ps (defScope st)) (hn : ps.length = 1) (hN : 1 ≤ N.length) (body : Body P w K mg base N x st k AnyB g) : Has P w K mg base x (k + 1) ps (spScrN K (mScrN N.length g)) :=
  let ⟨f, fd, m, F, b⟩ := D; ⟨f, fd, m, F.kp, b, fn_scrN F S hn hN (body f)⟩
end
section
variable {X : Cx} {pos p p2 py : Pos} {x y : Str} {e : Expr} {es : List Expr} {gs : M (List D)} {k n : Nat} {ps : List Str}
theorem e_callH {f : List D → Option D} (h : Has X.prog X.w X.K X.mg X.base x k ps (spF X.K n f)) (hr : Room k X.A) (ha : GA X (e :: es) gs) (hg : Gl X x := by rfl) (hdb : (x == ("__debug__" : Str)) = false := by decide)
    (he : starEach (e :: es) X.env = (false, eval e X.env) :: starEach es X.env := by rfl) (hpl : (backTo pos (starEach es X.env)).any (·.1) = false := by rfl) : GE X (.Call (.Name x p) (e :: es) [] pos) (gCallF n f gs) :=
  let ⟨fa, fd, m, kp, b, F⟩ := h; e_call F hr m kp b pass0 ha hg hdb he hpl
theorem e_callHIO {f : List D → List D → Option (D × List D)} (i : Nat) (h : Has X.prog X.w X.K X.mg X.base x k ps (spIO X.K n f)) (hr : Room k X.A) (ha : GA X es gs)
    (hN : X.N[i]? = some y := by rfl) (hv : Vis X.env.scope y := by first | exact Or.inl rfl | exact Or.inr (Or.inl rfl) | exact Or.inr (Or.inr rfl)) (hdy : (y == ("__debug__" : Str)) = false := by decide) (hcd : (y == ("__classdict__" : Str)) = false := by decide)
    (hg : Gl X x := by rfl) (hdb : (x == ("__debug__" : Str)) = false := by decide) (he : starEach (.Name y py :: es) X.env = (false, eval (.Name y py) X.env) :: starEach es X.env := by rfl) (hpl : (backTo pos (starEach es X.env)).any (·.1) = false := by rfl) :
    GE X (.Call (.Name x p) (.Name y py :: es) [] pos) (gIO i n f gs) :=
  let ⟨fa, fd, m, kp, b, F⟩ := h; e_callIO i F hr m kp b pass0 ha hN hv hdy hcd hg hdb he hpl
theorem mix_new {F1 H1 F' : Hp} {p : Addr} {o : HO} (hp : mixH F1 H1 (upd F' p o) p = some o) (hn : F' p = none) : mixH F1 H1 (upd F' p o) = upd (mixH F1 H1 F') p o := by
  funext b
  by_cases hb : b = p
  · subst hb; rw [upd_same, hp]
  · rw [upd_ne hb]
    unfold mixH
    rw [upd_ne hb]
theorem n_callH {f : List D → Option (List D)} (h : Has X.prog X.w X.K X.mg X.base x k ps (spN X.K n f)) (hr : Room k X.A) (ha : GA X (e :: es) gs) (hg : Gl X x := by rfl) (hdb : (x == ("__debug__" : Str)) = false := by decide)
    (he : starEach (e :: es) X.env = (false, eval e X.env) :: starEach es X.env := by rfl) (hpl : (backTo pos (starEach es X.env)).any (·.1) = false := by rfl) : GN X (.Call (.Name x p) (e :: es) [] pos) (gCallN n f gs) := by
  obtain ⟨fa, fd, m, kp, b, F⟩ := h
  obtain ⟨t, pa, ra⟩ := ha.ex
  refine ⟨_, pe_callF F hr hg m kp b .nil pass0 pa hdb he hpl, fun A F H S σ d S' Q k h post => ?_⟩
  obtain ⟨⟨ds, S1⟩, h1, h⟩ := bind_inv h
  simp only at h
  split at h
  · rename_i hn
    obtain ⟨z, h2, h⟩ := bind_inv h
    cases h
    refine ra A F H S σ ds _ _ k h1 fun A1 F1 H1 vs p1 s1 k1 r1 => ⟨F1, k1.sub, ds, z, hn, by rw [List.append_nil]; exact r1, h2, k1.tab, fun F' L us sm hL ru hz => ⟨fun b xs q => by
      rw [upd_ne (ne_of_none (sm.old b _ q trivial) hL)]; exact sm.old b _ q trivial, fun lost => ?_⟩⟩
    have lostF : ∀ b o, H1 b = some o → F1 b = none → F' b = none := fun b o ho hf => by
      have := lost b o ho hf
      by_cases hb : b = L
      · subst hb; exact hL
      · rwa [upd_ne hb] at this
    have hLH : H1 L = none := by
      cases q : H1 L with
      | none => rfl
      | some u =>
        cases q2 : F1 L with
        | none => have := lost L u q q2; rw [upd_same] at this; cases this
        | some v => obtain ⟨v', e'⟩ := sm.stay L v q2; rw [e'] at hL; cases hL
    rw [mix_new (by rw [mix_free hLH, upd_same]) hL]
    exact post A1 F' _ L us z p1 (s1.trans sm) (k1.mix sm lostF) (by rw [mix_free hLH]; exact hL) rfl ru hz
  · cases h
def gCallScr (i : Nat) (f : List Int → Option (List D)) : M D := fun S => (scrOf S i).bind fun ns => (f ns).bind fun z => some (.list z, S)
theorem n_callScr {f : List Int → Option (List D)} (i : Nat) (h : Has X.prog X.w X.K X.mg X.base x k ps (spScrN X.K f)) (hr : Room k X.A)
    (hN : X.N[i]? = some y := by rfl) (hv : Vis X.env.scope y := by first | exact Or.inl rfl | exact Or.inr (Or.inl rfl) | exact Or.inr (Or.inr rfl)) (hdy : (y == ("__debug__" : Str)) = false := by decide) (hcd : (y == ("__classdict__" : Str)) = false := by decide)
    (hg : Gl X x := by rfl) (hdb : (x == ("__debug__" : Str)) = false := by decide) (he : starEach [.Name y py] X.env = (false, eval (.Name y py) X.env) :: starEach [] X.env := by rfl) : GN X (.Call (.Name x p) [.Name y py] [] pos) (gCallScr i f) := by
  obtain ⟨fa, fd, m, kp, b, F⟩ := h
  refine ⟨_, pe_callF F hr hg m kp b .nil pass0 (pa_cons (pe_var hN hv hdy hcd) pa_nil he) hdb he (by rfl), fun A F H S σ d S' Q k h post => ?_⟩
  obtain ⟨ns, h1, h⟩ := bind_inv h
  obtain ⟨z, h2, h⟩ := bind_inv h
  cases h
  obtain ⟨hz, a, ev, hs⟩ := scr_at k h1
  refine ⟨_, ev, F, k.sub, a, ns, z, by rfl, hs, hz, h2, k.tab, fun F' L us sm hL ru hz => ⟨fun b xs q => by
      rw [upd_ne (ne_of_none (sm.old b _ q trivial) hL)]; exact sm.old b _ q trivial, fun lost => ?_⟩⟩
  have lostF : ∀ b o, H b = some o → F b = none → F' b = none := fun b o ho hf => by
    have := lost b o ho hf
    by_cases hb : b = L
    · subst hb; exact hL
    · rwa [upd_ne hb] at this
  have hLH : H L = none := by
    cases q : H L with
    | none => rfl
    | some u =>
      cases q2 : F L with
      | none => have := lost L u q q2; rw [upd_same] at this; cases this
      | some v => obtain ⟨v', e'⟩ := sm.stay L v q2; rw [e'] at hL; cases hL
  rw [mix_new (by rw [mix_free hLH, upd_same]) hL]
  exact post A F' _ L us z (List.prefix_refl _) sm (k.mix sm lostF) (by rw [mix_free hLH]; exact hL) rfl ru hz
theorem e_gintE {i : Int} (hm : ∃ t, X.mg x = some (.int i t)) (hg : Gl X x := by rfl) (hd : (x == ("__debug__" : Str)) = false := by decide) : GE X (.Name x pos) (gC (.int i)) := let ⟨_, m⟩ := hm; e_gint m hg hd
end
end Fu

set_option maxHeartbeats 4000000
namespace Fu
open PySem PySem.Spec PyProof.Rows L2 RZ
variable [TabsC]

section
variable {K : PySem.W.Frag} {F H : Hp}
theorem vals_at {vs : List V} {us : List Value} (r : Vals vs us) {i : Nat} {u : Value} (h : us[i]? = some u) : ∃ v, vs[i]? = some v ∧ RelV v u := by
  cases e : vs[i]? with
  | none => rw [r.none_of e] at h; cases h
  | some v =>
    obtain ⟨w, h1, h2⟩ := r.get e
    rw [h] at h1; cases h1
    exact ⟨v, rfl, h2⟩
end

/-! ### sorted(xs) of data -/
/-! ### max(xs), min(xs) of data -/
def pickOk (xs : List D) : Bool := (xs.all fun d => xs.all fun e => PySem.W.alike d e) && (xs.all fun d => match d with
  | .none => false
  | _ => true) && decide (PyData.depthAll xs ≤ 20) && PyData.canLayAll0 xs
def rPick (K : PySem.W.Frag) (f : D → List D → D) : List V → Hp → VK → Prop := fun xs H Q => ∃ (a : Addr) (vs : List V) (d : D) (ds : List D), xs = [.ref a] ∧ (SqL K H a vs ∨ SqT K H a vs) ∧ DpAll K H vs (d :: ds) ∧ PySem.W.AlikeAll (d :: ds) ∧ PyData.depthAll (d :: ds) ≤ 20 ∧
  ∀ (i : Nat) v, vs[i]? = some v → (d :: ds)[i]? = some (f d ds) → Q v H

theorem call_minD {X : Cx} {k : Nat} (hr : Room k X.A) (hc : X.calm = true) : CallR X (.builtin "min") (rPick X.K PySem.W.minD) := by
  intro pins s σ H xs us Q I r h
  obtain ⟨a, vs, d, ds, rfl, hs, hd, al, dp, q⟩ := h
  obtain ⟨u, rfl, ru⟩ := vals1 r
  cases ru
  have hun := hr.un
  have fin : ∀ {its : List Value} {as : List Addr} (i : Nat) (v : Value) (h' : Heap) (tk : Nat) (bs : List Addr), Vals vs its → ReadsAll s.heap its (d :: ds) as → its[i]? = some v → Reads h' v (PySem.W.minD d ds) bs → (∀ b o, s.heap.get? b = some o → h'.get? b = some o) →
      EP X pins σ Q v { s with heap := h', toks := tk } := by
    intro its as i v h' tk bs rv ra hi rd kk
    obtain ⟨w, hw, rw'⟩ := vals_at rv hi
    obtain ⟨cs, rc, hlt, _, _⟩ := PySem.W.readsAll_at ra i v hi
    obtain ⟨e, _⟩ := PyProof.Rows.reads_det (fun b o e _ => e) (Reads.keeps kk rc) rd
    refine ⟨w, H, I.kept kk, rw', q i w hw ?_⟩
    rw [e, List.getD_eq_getElem?_getD, List.getElem?_eq_getElem hlt]
    rfl
  rcases hs with hs | hs
  · obtain ⟨its, rv, pl, hz⟩ := I.list hs
    obtain ⟨as, ra⟩ := Dp.readsAll I (d :: ds) vs its hd rv
    exact PySem.W.min_list_data (I.ok.hd hc) pl.isList (by simpa using ra) al (by omega) fun i v h' tk bs hi rd kk => fin i v h' tk bs rv ra (by simpa using hi) rd kk
  · obtain ⟨its, rv, pl, hz⟩ := I.tuple hs
    obtain ⟨as, ra⟩ := Dp.readsAll I (d :: ds) vs its hd rv
    exact PySem.W.min_tuple_data (I.ok.hd hc) (show s.heap.IsTuple a its.toArray from pl) (by simpa using ra) al (by omega) fun i v h' tk bs hi rd kk => fin i v h' tk bs rv ra (by simpa using hi) rd kk

theorem pickOk_all {xs : List D} (h : pickOk xs = true) : PySem.W.AlikeAll xs ∧ PyData.depthAll xs ≤ 20 ∧ PyData.canLayAll0 xs = true := by
  unfold pickOk at h
  simp only [Bool.and_eq_true] at h
  obtain ⟨⟨⟨h1, h2⟩, h3⟩, h4⟩ := h
  refine ⟨⟨fun d hd e he => List.all_eq_true.mp (List.all_eq_true.mp h1 d hd) e he, fun d hd e => ?_⟩, of_decide_eq_true h3, h4⟩
  have := List.all_eq_true.mp h2 d hd
  rw [e] at this; cases this
def dPick (f : D → List D → D) : List D → Option D
  | [.list (d :: ds)] => if pickOk (d :: ds) = true then some (f d ds) else none
  | [.tuple (d :: ds)] => if pickOk (d :: ds) = true then some (f d ds) else none
  | _ => none
theorem rd_pick {K : PySem.W.Frag} (f : D → List D → D) : RdC K (rPick K f) (dPick f) := by
  intro A F H S σ xs ds z Q k r h post
  unfold dPick at h
  split at h
  · split at h
    · rename_i d ys hso
      cases h
      obtain ⟨v, rfl, rv⟩ := rps1 r
      obtain ⟨a, vs, rfl, h1, h2, h3⟩ := rp_list_inv rv
      obtain ⟨p1, p2, p3⟩ := pickOk_all hso
      refine ⟨a, vs, d, ys, rfl, .inl (SqL.of (k.sub.same _ _ h1)), Rps.dp _ _ p3 (Rps.mono k.sub.same.t _ _ h2), p1, p2, fun i v hv hd => ?_⟩
      obtain ⟨w, hw, rw'⟩ := h2.get hd
      rw [hv] at hw; cases hw
      exact post F H v (SameT.refl F) k rw'
    · cases h
  · split at h
    · rename_i d ys hso
      cases h
      obtain ⟨v, rfl, rv⟩ := rps1 r
      obtain ⟨a, vs, rfl, h1, h2, h3⟩ := rp_tup_inv rv
      obtain ⟨p1, p2, p3⟩ := pickOk_all hso
      refine ⟨a, vs, d, ys, rfl, .inr (sqT_same k.sub.same.t h1), Rps.dp _ _ p3 (Rps.mono k.sub.same.t _ _ h2), p1, p2, fun i v hv hd => ?_⟩
      obtain ⟨w, hw, rw'⟩ := h2.get hd
      rw [hv] at hw; cases hw
      exact post F H v (SameT.refl F) k rw'
    · cases h
  · cases h
/-! ### sum(xs) of ints -/
def allInts : List D → Option (List Int)
  | [] => some []
  | .int b :: ds => (allInts ds).bind fun bs => some (b :: bs)
  | _ => none
theorem allInts_map : ∀ {ds : List D} {bs : List Int}, allInts ds = some bs → ds = bs.map .int
  | [], _, h => by cases h; rfl
  | .int b :: ds, _, h => by
    obtain ⟨bs, h1, h2⟩ := bind_inv h
    cases h2
    rw [List.map_cons, allInts_map h1]
  | .none :: _, _, h => by simp [allInts] at h
  | .bool _ :: _, _, h => by simp [allInts] at h
  | .str _ :: _, _, h => by simp [allInts] at h
  | .list _ :: _, _, h => by simp [allInts] at h
  | .tuple _ :: _, _, h => by simp [allInts] at h
  | .dict _ :: _, _, h => by simp [allInts] at h
theorem allInts_of : ∀ bs : List Int, allInts (bs.map .int) = some bs
  | [] => rfl
  | b :: bs => by
    show (allInts (bs.map .int)).bind _ = _
    rw [allInts_of bs]; rfl
theorem rps_ints {K : PySem.W.Frag} {F : Hp} : ∀ {vs : List V} {bs : List Int}, Rps K F vs (bs.map .int) → vs = bs.map V.int
  | _, [], h => by cases h; rfl
  | _, b :: bs, h => by
    cases h with
    | cons h1 h2 => rw [rp_int_inv h1, rps_ints h2]; rfl
section
variable {X : Cx} {pos p p2 : Pos} {e : Expr} {es : List Expr} {gs : M (List D)} {k : Nat}
theorem e_min (hr : Room k X.A) (hm : X.mg "min" = none) (ha : GA X [e] gs) (hc : X.calm = true := by rfl) (hg : Gl X "min" := by rfl) (he : starEach [e] X.env = (false, eval e X.env) :: starEach [] X.env := by rfl) : GE X (.Call (.Name "min" p) [e] [] pos) (gCall (dPick PySem.W.minD) gs) :=
  e_callB (call_minD hr hc) (rd_pick _) hm (by decide +kernel) ha hg (he := he) (hpl := by rfl)
end
end Fu

set_option maxHeartbeats 4000000
namespace Fu
open PySem PySem.Spec PyProof.Rows L2
variable [TabsC]
/-! ### list(range(..)), xs[::-1], len(set(ints)) -/
section
variable {X : Cx} {pos p p2 p3 p4 : Pos} {a b e e2 : Expr} {ga gb ge ge2 : M D}
theorem rps_rg {K : PySem.W.Frag} {F : Hp} (lo hi : Int) : Rps K F (rgV lo hi) (rng lo (hi - lo).toNat) := by
  have h := Rps.ints (K := K) (H := F) ((List.range (hi - lo).toNat).map fun i : Nat => lo + (i : Int))
  rw [List.map_map, List.map_map] at h
  exact h
def gListRng1 (g : M D) : M D := fun S => (g S).bind fun q => match q.1 with
  | .int j => if -4611686018427387904 ≤ j ∧ j ≤ 16777216 then some (.list (rng 0 j.toNat), q.2) else none
  | _ => none
theorem n_listRng1 (hm : X.mg "list" = none) (hr : X.mg "range" = none) (ha : GE X e ge) (hc : X.calm = true := by rfl) (hg : Gl X "list" := by rfl) (hg2 : Gl X "range" := by rfl)
    (hs : starEach [e] X.env = (false, eval e X.env) :: starEach [] X.env := by rfl) (hs2 : starEach [.Call (.Name "range" p2) [e] [] p3] X.env = (false, eval (.Call (.Name "range" p2) [e] [] p3) X.env) :: starEach [] X.env := by rfl) :
    GN X (.Call (.Name "list" p) [.Call (.Name "range" p2) [e] [] p3] [] pos) (gListRng1 ge) := by
  obtain ⟨_, pa, ra⟩ := ha.ex
  refine ⟨_, pe_listRg hc hg hm (prg_1 hg2 hr pa hs) hs2, fun A F H S σ d S' Q k h post => ?_⟩
  obtain ⟨⟨x, S1⟩, h1, h⟩ := bind_inv h
  cases x with
  | int j =>
    simp only at h
    split at h
    · rename_i hj
      cases h
      refine ra A F H S σ _ _ _ k h1 fun A1 F1 H1 v s1 f1 k1 r1 => ?_
      cases rp_int_inv r1
      refine ⟨j, rfl, ⟨by omega, by omega, by omega, by omega, by omega⟩, fun q hq => post A1 F1 H1 q _ _ s1 f1 k1 hq rfl ?_ ?_⟩
      · have := rps_rg (K := X.K) (F := F1) 0 j
        rwa [Int.sub_zero] at this
      · rw [rng_len, sizeLine_eq]; omega
    · cases h
  | _ => cases h
def dRevL : D → Option D
  | .list xs => some (.list xs.reverse)
  | _ => none
theorem n_revL {k : Nat} (ha : GE X e ge) : GN X (.Subscript e (.Slice none none (some (.UnaryOp .USub (.Constant (.int 1) k p) p2)) p3) pos) (gUn dRevL ge) := by
  obtain ⟨_, pa, ra⟩ := ha.ex
  refine ⟨_, pe_revL pa, fun A F H S σ d S' Q k h post => ?_⟩
  obtain ⟨⟨x, S1⟩, h1, h⟩ := bind_inv h
  obtain ⟨z, h2, h⟩ := bind_inv h
  cases h
  cases x <;> simp only [dRevL] at h2 <;> cases h2
  refine ra A F H S σ _ _ _ k h1 fun A1 F1 H1 v s1 f1 k1 r1 => ?_
  obtain ⟨l, vs, rfl, g1, g2, g3⟩ := rp_list_inv r1
  exact ⟨l, vs, rfl, SqL.of (k1.sub.same _ _ g1), fun q hq => post A1 F1 H1 q _ _ s1 f1 k1 hq rfl g2.reverse (by rw [List.length_reverse]; exact g3)⟩
/-- how many unlike ones -/
def unlike (ns : List Int) : Nat := (PyProof.Rows.firstMet (fun i => ns.getD i 0) ns.length).length
def tManyI (K : PySem.W.Frag) (ta : TE) : TE := fun σ H Q => ta σ H fun x H1 => ∃ (l : Addr) (ns : List Int), x = .ref l ∧ SqL K H1 l (ns.map V.int) ∧ ns.length ≤ 4000 ∧ Q (.int (unlike ns : Nat)) H1
theorem pe_manyI {ta : TE} (g1 : Gl X "len") (m1 : X.mg "len" = none) (g2 : Gl X "set") (m2 : X.mg "set" = none) (ha : PE X e ta) (hc : X.calm = true) (na : starEach [e] X.env = (false, eval e X.env) :: starEach [] X.env) :
    PE X (.Call (.Name "len" p) [.Call (.Name "set" p2) [e] [] p3] [] pos) (tManyI X.K ta) := ⟨fun ps s σ H Q I h => by
  refine Call_ (ld_blt I g1 m1 boot_len (PyProof.Rows.callWith_builtin1 (PyProof.Rows.args_cons ?_ rfl) rfl rfl))
  refine Call_ (ld_blt I g2 m2 boot_set (PyProof.Rows.callWith_type1 (PyProof.Rows.args_cons ?_ na) na rfl))
  refine thn (ha.run ps s σ H _ I h) fun v t ⟨x, G, J, r, q⟩ => PyProof.Rows.args_nil ?_
  obtain ⟨l, ns, ex, hl, hz, q⟩ := q
  subst ex
  cases r
  obtain ⟨its, ri, pl, _⟩ := J.list hl
  have hn : its.toArray.size = ns.length := by rw [List.size_toArray, ← ri.length, List.length_map]
  have hb : its.toArray.size + 1 < scanBound := by rw [hn]; unfold scanBound; omega
  refine call_set_list (J.ok.hd hc) pl.isList (by simpa using RZ.intsAre_vals ri) hb fun h' tk st keep => PyProof.Rows.args_nil ?_
  rw [hn] at st
  obtain ⟨o, es, ep, tb, ho, hex, hd, _, _, _, hf, hcount⟩ := st
  have hle : unlike ns ≤ ns.length := PyProof.Rows.firstMet_length_le _ _
  have J2 : Inv X ps σ G { t with heap := h', toks := tk } := J.kept fun c u eu => keep c u (Heap.lt_size eu) eu
  exact call_len_set ho hex hd hf (by rw [hcount]; unfold unlike at hle; omega) ⟨.int (unlike ns), G, J2.tok _, ⟨_, by rw [hcount]; rfl⟩, q⟩⟩
def dLenSet : D → Option D
  | .list ds => (allInts ds).bind fun ns => if ns.length ≤ 4000 then some (.int (unlike ns : Nat)) else none
  | _ => none
theorem e_lenSet (m1 : X.mg "len" = none) (m2 : X.mg "set" = none) (ha : GE X e ge) (hc : X.calm = true := by rfl) (g1 : Gl X "len" := by rfl) (g2 : Gl X "set" := by rfl) (na : starEach [e] X.env = (false, eval e X.env) :: starEach [] X.env := by rfl) :
    GE X (.Call (.Name "len" p) [.Call (.Name "set" p2) [e] [] p3] [] pos) (gUn dLenSet ge) := by
  obtain ⟨_, pa, ra⟩ := ha.ex
  refine ⟨_, pe_manyI g1 m1 g2 m2 pa hc na, fun A F H S σ d S' Q k h post => ?_⟩
  obtain ⟨⟨x, S1⟩, h1, h⟩ := bind_inv h
  obtain ⟨z, h2, h⟩ := bind_inv h
  cases h
  cases x <;> simp only [dLenSet] at h2 <;> try cases h2
  obtain ⟨ns, h3, h2⟩ := bind_inv h2
  split at h2
  · rename_i hz
    cases h2
    refine ra A F H S σ _ _ _ k h1 fun A1 F1 H1 v s1 f1 k1 r1 => ?_
    obtain ⟨l, vs, rfl, q1, q2, q3⟩ := rp_list_inv r1
    have e := allInts_map h3
    subst e
    cases rps_ints q2
    exact ⟨l, ns, rfl, SqL.of (k1.sub.same _ _ q1), hz, post A1 F1 H1 _ s1 f1 k1 (.int _)⟩
  · cases h2
end
end Fu

set_option maxHeartbeats 4000000
namespace Fu
open PySem PySem.Spec PyProof.Rows L2
variable [TabsC]
/-! ### promises of functions that may ask what is being shown: with no show under way around them -/
structure FnG (P : Program) (w : World) (K : PySem.W.Frag) (mg : Str → Option Value) (base : Heap) (k : Nat) (fa : Addr) (fd : FuncData) (ps : List Str) (sp : Sp) : Prop where
  len : ∀ vs H Q E, sp vs H Q E → vs.length = ps.length
  go : ∀ (A : Around) (out : List Env) (t : Shared) (H : Hp) (ar : Args) (us : List Value) (vs : List V) (Q : VK) (E : XK), Room k A → A.guards = some [] → Env0 P w K mg base A out t H → BindsTo t fd ar (ps.zip us) → Vals vs us → sp vs H Q E →
    codeAny (model P w) A (.call (.ref fa) ar) (CR CX0 out P w H t Q E) t
section
variable {P : Program} {w : World} {K : PySem.W.Frag} {mg : Str → Option Value} {base : Heap} {x qual : Str} {st : Stmt} {f : Addr} {fd : FuncData} {N ps : List Str} {k n : Nat} {sp : Sp}
theorem FnG.of (F : FnOk P w K mg base CX0 k f fd ps sp) : FnG P w K mg base k f fd ps sp := ⟨F.len, fun A out t H ar us vs Q E hr _ => F.run A out t H ar us vs Q E hr⟩
theorem fun_okG (F : L2.Fun K x qual st f fd) (S : FnScope N ps (defScope st)) (len : ∀ vs H Q E, sp vs H Q E → vs.length = ps.length)
    (hb : ∀ (cdv : Value) (A : Around) (out : List Env) (t : Shared) (H : Hp) (vs : List V) (Q : VK) (E : XK), Room k (A.deeper (envOfC qual (defScope st) t.heap.objs.size f cdv)) → A.guards = some [] → sp vs H Q E →
      ∃ u, PSs (cxOf CX0 P w K mg base N qual (defScope st) f cdv A out t H E).nox (defBody st) u ∧ u { nx := fun _ G => Q .non G, rt := Q } (start N vs) H) : FnG P w K mg base (k + 1) f fd ps sp := by
  obtain ⟨oc, od, kV, doc, pm, an, cdv, ct, osl, rfl, lk, hcd⟩ := F.ex
  refine ⟨len, fun A out t H ar us vs Q E hr hg e0 hbd hv hs => ?_⟩
  have many := len _ _ _ _ hs
  have inK : K.In t.heap := e0.mod.kin.keeps fun b o z => (e0.bs b o z).1
  have nol : t.heap.NoLimit := e0.mod.nolimit.keeps fun b o z => (e0.bs b o z).1
  have kinds : ∀ q ∈ ps.zip us, (defScope st).names.lookup q.1 = some .local ∨ ((defScope st).names.lookup q.1 = some .cell ∧ ((cellsFrom (t.heap.objs.size + 1) (defScope st).names []).lookup q.1).isSome = true) := by
    rintro ⟨m, v⟩ hq
    exact (S.par m (List.of_mem_zip hq).1).imp id fun z => ⟨z, PySem.W.cellsFrom_some _ _ _ (.inl z)⟩
  refine codeAny_call_function hr.depth (inK _ _ lk) rfl S.co S.gen rfl (PySem.W.codeRec_of inK hcd) (hbd _ _ _ _ ?_)
  refine wpAny_newFunctionEnv_cells S.kind kinds fun en hen t1 made => ?_
  subst hen
  refine ⟨nol.keeps made.toInCall.keep, codeAny_func ?_⟩
  obtain ⟨u, hu, q⟩ := hb cdv A out t H vs Q E (hr.deeper _) hg hs
  have J : Inv (cxOf CX0 P w K mg base N qual (defScope st) f cdv A out t H E) [] (start N vs) H t1 := inv_start S hr.hd e0 many hv made
  have back : ∀ {σ : L2.St} {G : Hp} {v : V} {z : Value} {t2 : Shared}, Inv (cxOf CX0 P w K mg base N qual (defScope st) f cdv A out t H E) [] σ G t2 → RelV v z → Q v G → CE out P w H t Q z t2 := fun {σ G v z t2} I r p => ⟨v, G, I.os, I.bare, I.base, I.hok, r, p⟩
  refine wpAny_mono (hu.nox.run [] t1 (start N vs) H _ J q) (fun fl t2 z => ?_) fun e t2 z => z
  cases fl with
  | next =>
    obtain ⟨σ, G, I, p⟩ := z
    exact back (v := V.non) (z := Value.none) I rfl p
  | ret y =>
    obtain ⟨v, σ, G, I, r, p⟩ := z
    exact back I r p
  | cont => exact z.elim fun _ z => z.elim fun _ z => z.2.elim
  | brk => exact z.elim fun _ z => z.elim fun _ z => z.2.elim
end
section
variable {X : Cx} {k : Nat} {f : Addr} {fd : FuncData} {ps : List Str} {sp : Sp} {E : XK} {x : Str} {p pos : Pos} {e : Expr} {es : List Expr} {t : TA}
end
/-! ### the law's call, from such a promise -/
theorem law_callG {P : Program} {w : World} {K : PySem.W.Frag} {mg mb : Str → Option Value} {k : Nat} {fa ad : Addr} {fd : FuncData} {x : Str} {sp : Sp} {t : Shared} {us : List Value} {ms : List Int}
    (inK : K.In t.heap) (gl : t.heap.Ns mainGlobals mg) (bl : t.heap.Ns builtinsNs mb) (boot : ∀ y : Str, y ≠ "__name__" → mb y = bootBuiltins y) (nol : t.heap.NoLimit) (ng : t.gens = #[])
    (scr : t.heap.get? ad = some { cls := .type "list", data := .seq us.toArray }) (isI : IntsAre us ms) (few : ms.length ≤ sizeLine) (rm : Room k callerA)
    (F : ∀ b : Heap, K.In b → b.Ns mainGlobals mg → FnG P w K mg b k fa fd [x] sp) (bd : ∀ (q : Shared) (u : Value), BindsTo q fd ⟨[u], []⟩ [(x, u)])
    (due : ∀ G : Hp, Only G → SqL K G ad (ms.map V.int) → sp [.ref ad] G (fun v _ => v = .bl true) fun _ _ _ => False) :
    codeAny (model P w) callerA (.call (.ref fa) ⟨[.ref ad], []⟩) (fun r q => r = .ok (.ret (.bool true)) ∧ OldK t.heap q.heap ∧ q.os = t.os ∧ AllBare q.gens) t := by
  have vals := vals_ints isI
  have size := isI.length
  have main : ∀ G : Hp, Only G → SqL K G ad (ms.map V.int) → HOk P w G t.heap → (∀ b, G b ≠ none → b = ad) → (G ad ≠ none → K.lookup ad = none) →
      codeAny (model P w) callerA (.call (.ref fa) ⟨[.ref ad], []⟩) (fun r q => r = .ok (.ret (.bool true)) ∧ OldK t.heap q.heap ∧ q.os = t.os ∧ AllBare q.gens) t := by
    intro G only sq okG one free
    have put : ∀ {c : Addr} {o : Obj}, t.heap.get? c = some o → G c = none → (hidT t.heap G).get? c = some o := fun a b => hidT_get a b
    have noD : ∀ {c : Addr} {o : Obj} {es : Array DictEntry} {ep : Nat}, t.heap.get? c = some o → o.data = .dict es ep → G c = none := by
      intro c o es ep h1 h2
      cases z : G c with
      | none => rfl
      | some u =>
        obtain rfl : c = ad := one c (by rw [z]; simp)
        rw [scr] at h1
        cases h1
        exact absurd (show Data.seq us.toArray _ = Data.dict es ep from h2) (fun y => nomatch y)
    have space : ∀ {c : Addr} {m : Str → Option Value}, t.heap.Ns c m → (hidT t.heap G).Ns c m := by
      rintro c m ⟨o, es, ep, h1, h2, h3⟩
      exact ⟨o, es, ep, put h1 (noD h1 h2), h2, h3⟩
    have inB : K.In (hidT t.heap G) := by
      intro c o h1
      refine put (inK c o h1) ?_
      cases z : G c with
      | none => rfl
      | some u =>
        obtain rfl : c = ad := one c (by rw [z]; simp)
        rw [free (by rw [z]; simp)] at h1
        cases h1
    have md : Mod K mg (hidT t.heap G) := by
      obtain ⟨mc, h1, h2⟩ := nol
      exact ⟨inB, space gl, ⟨mb, space bl, boot⟩, ⟨mc, space h1, h2⟩⟩
    have ev : Env0 P w K mg (hidT t.heap G) callerA [] t G := ⟨rfl, md, fun c o z => of_hidT z, Nat.le_of_eq (hidT_size _ _), trivial, (fun c z => (List.not_mem_nil (show c ∈ ([] : List Addr) from z)).elim), okG, .of_eq ng⟩
    refine codeAny_mono ((F _ inB (space gl)).go callerA [] t G ⟨[.ref ad], []⟩ [.ref ad] [.ref ad] _ _ rm rfl ev (bd t (.ref ad)) (.cons rfl .nil) (due G only sq)) fun z q y => ?_
    cases z with
    | error e => exact (show False from y).elim
    | ok fl =>
      cases fl with
      | ret u =>
        obtain ⟨v, G', osE, bareE, un, okG', rel, vt⟩ := y
        have vt : v = .bl true := vt
        subst vt
        obtain rfl : u = Value.bool true := rel
        refine ⟨rfl, OldK.of_keep fun c o h1 => ?_, osE, bareE⟩
        cases z : G c with
        | none => exact un.keep c o h1 z (fun h => List.not_mem_nil (show c ∈ ([] : List Addr) from h)) (by simp)
        | some u =>
          rcases only c with h2 | ⟨oc, xs, h2⟩
          · rw [z] at h2; cases h2
          · have h3 := un.frzs c oc _ h2
            have h4 := (okG c _ h2).1
            have h5 := (okG' c _ h3).1
            rw [h1] at h4
            cases h4
            exact h5
      | next => exact y.elim
      | cont => exact y.elim
      | brk => exact y.elim
  cases hk : K.lookup ad with
  | some o =>
    have z := inK ad o hk
    rw [scr] at z
    cases z
    exact main (fun _ => none) (fun _ => .inl rfl) (.inr ⟨_, us.toArray, _, hk, rfl, rfl, rfl, by rw [List.size_toArray, size]; exact few, by simpa using vals⟩) (fun c u z => nomatch (show (none : Option HO) = some u from z)) (fun c z => absurd rfl z) fun z => absurd rfl z
  | none =>
    refine main (fun c => if c = ad then some (.frz { cls := .type "list", data := .seq us.toArray } (.lst (ms.map V.int))) else none) ?_ (.inl (.inr ⟨{ cls := .type "list", data := .seq us.toArray }, if_pos rfl⟩)) ?_ ?_ fun _ => hk
    · intro c
      by_cases hc : c = ad
      · exact .inr ⟨_, _, if_pos hc⟩
      · exact .inl (if_neg hc)
    · intro c u z
      by_cases hc : c = ad
      · have y := (if_pos hc).symm.trans z
        cases y
        subst hc
        exact ⟨scr, by rw [List.length_map]; exact few, us, _, vals, scr⟩
      · have y := (if_neg hc).symm.trans z
        cases y
    · intro c z
      by_cases hc : c = ad
      · exact hc
      · exact absurd (if_neg hc) z
theorem walk_ofG {l : PySem.W.OpenLaw} {n k : Nat} {q : Program} {loose : List Str} {XP : (Str → Option Value) → Heap → Prop} {YP : World → Heap → Prop} {d : DefRec} {K : Params → PySem.W.Frag} {sp : World → Sp} {x : Str}
    (hn : l.most = some n) (hn2 : n ≤ sizeLine) (hdf : d.params.defaults = []) (rm : Room k callerA) (hY : ∀ (w : World) (h : Heap), YP w h → (K w.params).In h)
    (F : ∀ (w : World) (mg : Str → Option Value) (fa : Addr) (h : Heap), (K w.params).In h → h.Ns mainGlobals mg → mg d.name = some (.ref fa) →
      ∃ fd : FuncData, (∀ (s : Shared) (u : Value), BindsTo s fd ⟨[u], []⟩ [(x, u)]) ∧ ∀ b : Heap, (K w.params).In b → b.Ns mainGlobals mg → FnG l.prog w (K w.params) mg b k fa fd [x] (sp w))
    (due : ∀ (w : World) (G : Hp) (ad : Addr) (ms : List Int), ms.length ≤ n → Only G → SqL (K w.params) G ad (ms.map V.int) → sp w [.ref ad] G (fun v _ => v = .bl true) fun _ _ _ => False) :
    PySem.W.WalkO q loose XP YP l.row.toRowW d [] (fun f vs => PySem.call f vs) := by
  refine Att.attach_call hn hdf fun w s0 t mg mb fa o pm cd doc ad us ms g Y h1 h2 h3 h4 h5 h6 h7 h8 => ?_
  obtain ⟨fd, bd, FF⟩ := F w mg fa _ (hY w _ Y) g.T.g h4
  exact law_callG (hY w _ Y) g.T.g g.T.b g.T.builtins g.T.nolimit h8 h5 h6 (Nat.le_trans h7 hn2) rm FF bd fun G a b => due w G ad ms h7 a b
end Fu

set_option maxHeartbeats 4000000
namespace Fu
open PySem PySem.Spec PyProof.Rows L2
variable [TabsC]
/-! ### defs whose promise wants that no show is under way -/
section
variable {P : Program} {w : World} {K : PySem.W.Frag} {mg : Str → Option Value} {base : Heap} {x qual : Str} {st : Stmt} {f : Addr} {fd : FuncData} {N ps : List Str} {k n : Nat} {g : Sx → Option Out}
theorem fn_lawG {Pb : Hp → Prop} (hPb : ∀ B, NoLst B → Pb B) (F : Fun K x qual st f fd) (S : FnScope N ps (defScope st)) (hn : ps.length = 1) (hN : 1 ≤ N.length)
    (body : ∀ (cdv : Value) (A : Around) (outer : List Env) (s : Shared) (H : Hp) (E : XK), Room k (A.deeper (envOfC qual (defScope st) s.heap.objs.size f cdv)) → A.guards = some [] → GSs (cxF P w K mg base N qual st f cdv A outer s H E) Pb (defBody st) g) :
    FnG P w K mg base (k + 1) f fd ps (spLaw K (mScr N.length g)) := by
  refine fun_okG F S (fun vs H Q E h => by obtain ⟨a, ns, rfl, _⟩ := h; exact hn.symm) fun cdv A outer s H vs Q E hr hgd h => ?_
  obtain ⟨a, ns, rfl, hs, hz, hB, e, tb, post⟩ := h
  obtain ⟨t, p, rd⟩ := (body cdv A outer s H E hr hgd).ex
  refine ⟨t, p, ?_⟩
  obtain ⟨o, e1, e⟩ := bind_inv e
  refine rd H [] [] H H _ _ o _ (hPb H hB) (SameT.refl H) (List.prefix_refl _) (start_scr hs hz hN tb) e1 ?_
  cases o with
  | nx S => cases e
  | rt d S =>
    cases e
    intro A1 F1 H1 σ1 v s1 p1 k1 rv
    cases rv
    exact post H1
  | bk S => cases e
  | ct S => cases e
  | rs r S => cases e
  | ro j S => cases e
end
section
variable {X : Cx} {pos p p2 : Pos} {x : Str} {e : Expr} {es : List Expr} {gs : M (List D)} {f : List D → Option D} {k n : Nat} {fa : Addr} {fd : FuncData} {ps : List Str} {E : XK}
end
section
variable {P : Program} {w : World} {K : PySem.W.Frag} {mg : Str → Option Value} {base : Heap} {x : Str} {st : Stmt} {N ps : List Str} {k n : Nat} {g : Sx → Option Out}
abbrev BodyG (P : Program) (w : World) (K : PySem.W.Frag) (mg : Str → Option Value) (base : Heap) (N : List Str) (x : Str) (st : Stmt) (k : Nat) (Pb : Hp → Prop) (g : Sx → Option Out) : Prop :=
  ∀ (f : Addr) (cdv : Value) (A : Around) (outer : List Env) (s : Shared) (H : Hp) (E : XK), Room k (A.deeper (envOfC x (defScope st) s.heap.objs.size f cdv)) → A.guards = some [] → GSs (cxF P w K mg base N x st f cdv A outer s H E) Pb (defBody st) g
end
section
variable {X : Cx} {pos p p2 py : Pos} {x y : Str} {e : Expr} {es : List Expr} {gs : M (List D)} {k n : Nat} {ps : List Str}
end
end Fu

set_option maxHeartbeats 4000000
namespace Fu
open PySem PySem.Spec PyProof.Rows L2
variable [TabsC]
/-! ### repr of lists and tuples -/
def showOk (d : D) : Bool := d.showable && !d.hasDict && d.canLay0 && decide (d.depth ≤ 60) && decide (d.shown.length ≤ 16777216)
theorem showOk_all {d : D} (h : showOk d = true) : d.showable = true ∧ d.hasDict = false ∧ d.canLay0 = true ∧ d.depth ≤ 60 ∧ d.shown.length ≤ sizeLine := by
  unfold showOk at h
  simp only [Bool.and_eq_true, decide_eq_true_eq, Bool.not_eq_true'] at h
  exact ⟨h.1.1.1.1, h.1.1.1.2, h.1.1.2, h.1.2, by rw [sizeLine_eq]; exact h.2⟩
def rRepr (K : PySem.W.Frag) : List V → Hp → VK → Prop := fun xs H Q => ∃ (a : Addr) (d : D), xs = [.ref a] ∧ Dp K H (.ref a) d ∧ showOk d = true ∧ Q (.str d.shown) H
theorem call_reprD {X : Cx} {k : Nat} (hr : Room k X.A) (hgd : X.A.guards = some []) : CallR X (.builtin "repr") (rRepr X.K) := by
  intro pins s σ H xs us Q I r h
  obtain ⟨a, d, rfl, hd, ok, q⟩ := h
  obtain ⟨u, rfl, ru⟩ := vals1 r
  cases ru
  obtain ⟨h1, h2, h3, h4, h5⟩ := showOk_all ok
  obtain ⟨as, rd⟩ := Dp.reads I d _ _ hd rfl
  have hun := hr.un
  exact repr_of_reads' rd h1 (fun e => by rw [h2] at e; cases e) hgd (by omega) (fun _ _ e => e) (fun h' u tk keep => ⟨.str d.shown, H, I.kept (t' := tk) keep, ⟨u, rfl⟩, q⟩) h5
/-- .. and of what is no display -/
def rRepr1 : List V → Hp → VK → Prop := fun xs H Q => (xs = [.non] ∧ Q (.str "None") H) ∨ (∃ x, xs = [.str x] ∧ (reprText x).length ≤ sizeLine ∧ Q (.str (reprText x)) H) ∨ (∃ i : Int, xs = [.int i] ∧ i.natAbs.log2 < 1920 ∧ Q (.str (toString i)) H) ∨ (∃ a, xs = [.ref a] ∧ H a = some (.dK []) ∧ Q (.str (PyData.dict []).shown) H)
theorem call_repr1 {X : Cx} {k : Nat} (hr : Room k X.A) (hgd : X.A.guards = some []) : CallR X (.builtin "repr") rRepr1 := by
  intro pins s σ H xs us Q I r h
  rcases h with ⟨rfl, q⟩ | ⟨x, rfl, hl, q⟩ | ⟨i, rfl, hi, q⟩ | ⟨a, rfl, ha, q⟩
  · obtain ⟨u, rfl, ru⟩ := vals1 r
    cases ru
    exact call_repr_gives (typeIs_none s) PySem.F.slot_NoneType_repr PySem.F.entry_NoneType_repr (PySem.F.args_NoneType_repr_1 _) gives_none_repr ⟨.str "None", H, I.kept (t' := s.toks + 1) (fun _ _ z => z), ⟨_, rfl⟩, q⟩
  · obtain ⟨u, rfl, ru⟩ := vals1 r
    obtain ⟨t, rfl⟩ := ru
    exact PySem.P.repr_of_str ⟨.str (reprText x), H, I.kept (t' := s.toks + 1) (fun _ _ z => z), ⟨_, rfl⟩, q⟩ hl
  · exact SkE.call_repr_int pins s σ H _ us Q I r ⟨i, rfl, hi, q⟩
  · obtain ⟨u, rfl, ru⟩ := vals1 r
    cases ru
    obtain ⟨_, hs, vs, kv, o, es, ep, e1, e2, e3, e4, e5, e6⟩ := (show ObjOk X.prog X.w H s.heap a (.dK []) from I.hok a _ ha)
    have hun := hr.un
    cases kv
    have he : es.toList = [] := by
      revert e5
      generalize es.toList = l
      intro e5
      cases e5; rfl
    have rd : Reads s.heap (.ref a) (.dict []) [a] := Reads.dict (as := []) (bs := []) e1 e2.1 e3 (by rw [he]; exact .nil) (by rw [he]; exact .nil)
    refine repr_of_reads' rd (by rfl) (fun _ hm => ?_) hgd (by
      have : PyData.depth (.dict []) ≤ 60 := (by decide +kernel)
      omega) (fun _ _ e => e) (fun h' u tk keep => ⟨.str _, H, I.kept (t' := tk) keep, ⟨u, rfl⟩, q⟩) (by decide +kernel)
    rw [List.mem_singleton.mp hm] at hs
    simp at hs
def dRepr : List D → Option D
  | [.none] => some (.str "None")
  | [.str x] => if (reprText x).length ≤ sizeLine then some (.str (reprText x)) else none
  | [.int i] => if i.natAbs.log2 < 1920 ∧ (Str.ofString (toString i)).length ≤ sizeLine then some (.str (Str.ofString (toString i))) else none
  | [.dict []] => some (.str (PyData.dict []).shown)
  | [.list xs] => if showOk (.list xs) = true then some (.str (PyData.list xs).shown) else none
  | [.tuple xs] => if showOk (.tuple xs) = true then some (.str (PyData.tuple xs).shown) else none
  | _ => none
def rRepr2 (K : PySem.W.Frag) : List V → Hp → VK → Prop := fun xs H Q => rRepr K xs H Q ∨ rRepr1 xs H Q
theorem call_repr2 {X : Cx} {k : Nat} (hr : Room k X.A) (hgd : X.A.guards = some []) : CallR X (.builtin "repr") (rRepr2 X.K) := fun pins s σ H xs us Q I r h => h.elim (call_reprD hr hgd pins s σ H xs us Q I r) (call_repr1 hr hgd pins s σ H xs us Q I r)
theorem rd_repr {K : PySem.W.Frag} : RdC K (rRepr2 K) dRepr := by
  intro A F H S σ xs ds z Q k r h post
  unfold dRepr at h
  split at h
  · cases h
    obtain ⟨v, rfl, rv⟩ := rps1 r
    cases rv
    exact .inr (.inl ⟨rfl, post F H _ (SameT.refl F) k (.str (by decide))⟩)
  · split at h
    · rename_i x hz
      cases h
      obtain ⟨v, rfl, rv⟩ := rps1 r
      obtain ⟨rfl, _⟩ := rp_str_inv rv
      exact .inr (.inr (.inl ⟨x, rfl, hz, post F H _ (SameT.refl F) k (.str hz)⟩))
    · cases h
  · split at h
    · rename_i i hz
      cases h
      obtain ⟨v, rfl, rv⟩ := rps1 r
      cases rp_int_inv rv
      exact .inr (.inr (.inr (.inl ⟨i, rfl, hz.1, post F H _ (SameT.refl F) k (.str hz.2)⟩)))
    · cases h
  · cases h
    obtain ⟨v, rfl, rv⟩ := rps1 r
    cases rv with
    | dct h1 h2 _ => exact .inr (.inr (.inr (.inr ⟨_, rfl, k.sub.same _ _ (h2 rfl), post F H _ (SameT.refl F) k (.str (by decide +kernel))⟩)))
  · split at h
    · rename_i ys ok
      cases h
      obtain ⟨v, rfl, rv⟩ := rps1 r
      have rv2 := rv.mono k.sub.same.t _ _
      obtain ⟨a, vs, rfl, g1, g2, g3⟩ := rp_list_inv rv
      obtain ⟨h1, h2, h3, h4, h5⟩ := showOk_all ok
      exact .inl ⟨a, _, rfl, Rp.dp _ _ h3 rv2, ok, post F H _ (SameT.refl F) k (.str h5)⟩
    · cases h
  · split at h
    · rename_i ys ok
      cases h
      obtain ⟨v, rfl, rv⟩ := rps1 r
      have rv2 := rv.mono k.sub.same.t _ _
      obtain ⟨a, vs, rfl, g1, g2, g3⟩ := rp_tup_inv rv
      obtain ⟨h1, h2, h3, h4, h5⟩ := showOk_all ok
      exact .inl ⟨a, _, rfl, Rp.dp _ _ h3 rv2, ok, post F H _ (SameT.refl F) k (.str h5)⟩
    · cases h
  · cases h
section
variable {X : Cx} {pos p p2 : Pos} {e : Expr} {es : List Expr} {gs : M (List D)} {k : Nat}
theorem e_repr (hr : Room k X.A) (hgd : X.A.guards = some []) (hm : X.mg "repr" = none) (ha : GA X [e] gs) (hg : Gl X "repr" := by rfl) (he : starEach [e] X.env = (false, eval e X.env) :: starEach [] X.env := by rfl) : GE X (.Call (.Name "repr" p) [e] [] pos) (gCall dRepr gs) :=
  e_callB (call_repr2 hr hgd) rd_repr hm (by decide +kernel) ha hg (he := he) (hpl := by rfl)
end
end Fu

set_option maxHeartbeats 4000000
namespace Fu
open PySem PySem.Spec PyProof.Rows L2
variable [TabsC]
/-! ### a < b < c, list + list as a new list -/
section
variable {X : Cx} {pos p p2 : Pos} {a b c e : Expr} {ga gb gc : M D} {op op' : CmpOp}
theorem n_cat (ha : GE X a ga) (hb : GE X b gb) : GN X (.BinOp a .Add b pos) (gRep dAdd ga gb) := by
  obtain ⟨_, pa, ra⟩ := ha.ex
  obtain ⟨_, pb, rb⟩ := hb.ex
  refine ⟨_, pe_op op_cat pa pb, fun A F H S σ d S' Q k h post => ?_⟩
  obtain ⟨⟨z, S3⟩, h0, h⟩ := bind_inv h
  obtain ⟨⟨x, S1⟩, h1, h0⟩ := bind_inv h0
  obtain ⟨⟨y, S2⟩, h2, h0⟩ := bind_inv h0
  obtain ⟨z', h3, h0⟩ := bind_inv h0
  cases h0
  refine ra A F H S σ x S1 _ k h1 fun A1 F1 H1 v1 p1 s1 k1 r1 => rb A1 F1 H1 S1 σ y _ _ k1 h2 fun A2 F2 H2 v2 p2 s2 k2 r2 => ?_
  cases z <;> simp only at h <;> cases h
  cases x <;> cases y <;> simp only [dAdd] at h3 <;> try cases h3
  · split at h3 <;> cases h3
  · split at h3
    · rename_i hz
      cases h3
      obtain ⟨l, xs, rfl, g1, g2, _⟩ := rp_list_inv (r1.mono s2 _ _)
      obtain ⟨m, ys, rfl, g3, g4, _⟩ := rp_list_inv r2
      exact ⟨l, m, xs, ys, rfl, rfl, k2.sub.same _ _ g1, k2.sub.same _ _ g3, by rw [g2.length, g4.length]; exact hz, fun p hp => post A2 F2 H2 p _ _ (p1.trans p2) (s1.trans s2) k2 hp rfl (g2.append g4) (by rw [List.length_append]; exact hz)⟩
    · cases h3
  · split at h3 <;> cases h3
end
end Fu

set_option maxHeartbeats 4000000
namespace Fu
open PySem PySem.Spec PyProof.Rows L2
variable [TabsC]
/-! ### xs.count(x), slices as new lists -/
section
variable {X : Cx} {pos p p2 apos : Pos} {a b e o : Expr} {ga gb ge go : M D} {k : Nat} {gl gh : M (Option Int)} {lo hi : Option Expr}
end
end Fu

set_option maxHeartbeats 4000000
namespace Fu
open PySem PySem.Spec PyProof.Rows L2
variable [TabsC]
/-! ### an item of an own list as a target among others -/
section
variable {X : Cx} {pos p p2 py : Pos} {y : Str} {b : Expr} {gb : M D} {tgt : List Nat}
end
end Fu

set_option maxHeartbeats 4000000
namespace Fu
open PySem PySem.Spec PyProof.Rows L2
variable [TabsC]
/-! ### a def that calls itself, where it may go no deeper: nothing is promised -/
section
variable {P : Program} {w : World} {K : PySem.W.Frag} {mg : Str → Option Value} {base : Heap} {x : Str} {st : Stmt} {ps : List Str} {k n : Nat}
theorem has_none_pure (D : DefAt K mg x st ps) (hn : ps.length = n) : Has P w K mg base x k ps (spF K n fun _ => none) :=
  let ⟨f, fd, m, F, b⟩ := D; ⟨f, fd, m, F.kp, b, ⟨fun vs H Q E h => (by obtain ⟨ds, z, _, _, h, _⟩ := h; cases h), fun A outer s H args us vs Q E _ _ _ _ h => (by obtain ⟨ds, z, _, _, h, _⟩ := h; cases h)⟩⟩
end
end Fu

set_option maxHeartbeats 4000000
namespace Fu
open PySem PySem.Spec PyProof.Rows L2 RZ
variable [TabsC]
/-! ### slices of a list that is written: the list stays one's own -/
section
variable {X : Cx} {P : Hp → Prop} {pos py p p2 p3 p4 apos : Pos} {x y : Str} {a b c d e : Expr} {es : List Expr} {ga gb gc gd ge : M D} {gs : M (List D)} {lo hi : Option Expr} {gl gh : M (Option Int)}
/-! ### xs += e, a list that is written -/
/-! ### the script: walked, as a list -/
/-! ### enumerate(xs) -/
/-! ### a < b <= c < d -/
end
end Fu

set_option maxHeartbeats 4000000
namespace Fu
open PySem PySem.Spec PyProof.Rows L2 RZ
variable [TabsC]
section
variable {X : Cx} {P : Hp → Prop} {pos py p p2 p3 p4 apos : Pos} {x y : Str} {a b c d e e2 e3 o : Expr} {es : List Expr} {ga gb gc gd ge go g2 : M D} {gs : M (List D)} {k : Nat}
/-! ### xs[::c], c is 1 or -1 -/
/-! ### xs.index(x) -/
/-! ### max(a, b, c) -/
end
end Fu

set_option maxHeartbeats 4000000
namespace Fu
open PySem PySem.Spec PyProof.Rows L2 RZ
variable [TabsC]
/-! ### calls that look at lists of one's own: they stay one's own, the answer holds no list -/
mutual
def hardD : D → Bool
  | .none | .bool _ | .int _ | .str _ => true
  | .list _ | .dict _ => false
  | .tuple ds => hardDs ds
def hardDs : List D → Bool
  | [] => true
  | d :: ds => hardD d && hardDs ds
end
mutual
theorem Rp.hard {K : PySem.W.Frag} {F H : Hp} (ht : ∀ b xs, H b = some (.tup xs) → F b = some (.tup xs)) : ∀ (d : D) (v : V), hardD d = true → Rp K H v d → Rp K F v d
  | .none, _, _, h => by cases h; exact .non
  | .bool b, _, _, h => by cases h; exact .bl b
  | .int i, _, _, h => by cases h; exact .int i
  | .str x, _, _, h => by
    cases h with
    | str hz => exact .str hz
  | .list ds, _, c, _ => by simp [hardD] at c
  | .dict kvs, _, c, _ => by simp [hardD] at c
  | .tuple ds, _, c, h => by
    cases h with
    | tup hs ha hz => exact .tup (ht _ _ hs) (Rps.hard ht ds _ (by simpa [hardD] using c) ha) hz
theorem Rps.hard {K : PySem.W.Frag} {F H : Hp} (ht : ∀ b xs, H b = some (.tup xs) → F b = some (.tup xs)) : ∀ (ds : List D) (vs : List V), hardDs ds = true → Rps K H vs ds → Rps K F vs ds
  | [], _, _, h => by cases h; exact .nil
  | d :: ds, _, c, h => by
    have c' : hardD d = true ∧ hardDs ds = true := by simpa [hardDs] using c
    cases h with
    | cons h1 h2 => exact .cons (Rp.hard ht d _ c'.1 h1) (Rps.hard ht ds _ c'.2 h2)
end
section
variable {X : Cx} {pos py p p2 : Pos} {x y : Str} {e : Expr} {es : List Expr} {ge : M D} {gs : M (List D)} {k n : Nat} {ps : List Str}
/-- what was not there before is known for good -/
def newH (F H H' : Hp) : Hp := fun b => match H b with
  | none => H' b
  | some (.tbl _) => H' b
  | some _ => F b
theorem newH_new {F H H' : Hp} {b : Addr} (h : H b = none) : newH F H H' b = H' b := by unfold newH; rw [h]
theorem newH_old {F H H' : Hp} {b : Addr} {o : HO} (h : H b = some o) (n : NT o) : newH F H H' b = F b := by
  unfold newH
  rw [h]
  cases o <;> first | rfl | exact n.elim
theorem newH_tbl {F H H' : Hp} {b : Addr} {o : HO} (h : H b = some o) (n : ¬ NT o) : newH F H H' b = H' b := by
  unfold newH
  rw [h]
  cases o <;> first | rfl | exact (n trivial).elim
theorem newH_get {K : PySem.W.Frag} {A : List Addr} {F H H' : Hp} {S : Sx} {σ : L2.St} (k : Ok K A F H S σ) (s : SameT H H') {b : Addr} (o : HO) (q : H' b = some o) (nl : ¬ Loose o) : Fu.newH F H H' b = some o := by
  cases e : H b with
  | none => rw [newH_new e]; exact q
  | some u =>
    by_cases n : NT u
    · have := s.old b u e n
      rw [q] at this; cases this
      rw [newH_old e n]
      exact k.sub.keep e nl
    · rw [newH_tbl e n]; exact q
theorem Ok.newH {K : PySem.W.Frag} {A : List Addr} {F H H' : Hp} {S : Sx} {σ : L2.St} (k : Ok K A F H S σ) (s : SameT H H') : SameT F (newH F H H') ∧ Ok K A (newH F H H') H' S σ := by
  have sm : SameT F (Fu.newH F H H') := ⟨fun b o q n => by
    rw [newH_old (k.sub.same b o q) n]; exact q, fun t => fun p hp => by
    obtain ⟨ps, e, t1, t2⟩ := s.tab (k.tab.ext k.sub.same) p hp
    exact ⟨ps, newH_get k s _ e (fun z => z), t1, fun pos cv h => let ⟨c, e1, e2⟩ := t2 pos cv h; ⟨c, e1, newH_get k s _ e2 (fun z => z)⟩⟩, fun b o q => by
    by_cases n : NT o
    · rw [newH_old (k.sub.same b o q) n]; exact ⟨o, q⟩
    · rw [newH_tbl (k.sub.same b o q) n]; exact s.stay _ _ (k.sub.same b o q)⟩
  refine ⟨sm, k.grow ⟨fun b o q => ?_, fun b o q n => ?_⟩ sm (fun a ha o q => ?_) fun a ha q => ?_⟩
  · cases e : H b with
    | none => rw [newH_new e] at q; exact q
    | some u =>
      by_cases n : NT u
      · rw [newH_old e n] at q
        have := k.sub.same b o q
        rw [e] at this; cases this
        exact s.old b _ e n
      · rw [newH_tbl e n] at q; exact q
  · cases e : H b with
    | none => rw [newH_new e, q] at n; cases n
    | some u =>
      by_cases nn : NT u
      · rw [newH_old e nn] at n
        have := s.old b u e nn
        rw [q] at this; cases this
        exact k.sub.loose b o e n
      · rw [newH_tbl e nn, q] at n; cases n
  · obtain ⟨o', ho, l⟩ := k.trk a ha
    rw [q] at ho; cases ho
    exact s.old a o q l.nt
  · obtain ⟨o, ho, l⟩ := k.trk a ha
    rw [newH_old ho l.nt]; exact q
end
end Fu

set_option maxHeartbeats 4000000
namespace Fu
open PySem PySem.Spec PyProof.Rows L2 RZ
variable [TabsC]
/-! ### looks: an expression that writes nothing sees one's own lists as data; they stay one's own -/
def mapO {α β : Type} (f : α → Option β) : List α → Option (List β)
  | [] => some []
  | x :: xs => (f x).bind fun y => (mapO f xs).map fun ys => y :: ys
def snapR (os : List (Option Cell)) : Nat → R → Option D
  | 0, .dat d => some d
  | 0, _ => none
  | _ + 1, .dat d => some d
  | _ + 1, .scr _ => none
  | _ + 1, .exc _ => none
  | n + 1, .tup rs => (mapO (snapR os n) rs).map .tuple
  | n + 1, .own j => match os[j]? with
    | some (some (.lst ds)) => some (.list ds)
    | some (some (.lR rs)) => (mapO (snapR os n) rs).map .list
    | _ => none
def sealS (os : List (Option Cell)) : Option R → Option R
  | some (.scr ns) => some (.scr ns)
  | some (.exc c) => some (.exc c)
  | some r => (snapR os 8 r).map .dat
  | none => none
def sealAll (S : Sx) : Sx := ⟨S.sl.map (sealS S.os), S.os.map fun _ => none⟩
section
variable {K : PySem.W.Frag} {A : List Addr} {F H H' : Hp} {S : Sx} {σ : L2.St}
theorem mapO_len {α β : Type} {f : α → Option β} : ∀ {xs : List α} {ys : List β}, mapO f xs = some ys → ys.length = xs.length
  | [], _, h => by cases h; rfl
  | x :: xs, _, h => by
    obtain ⟨y, _, h⟩ := bind_inv h
    obtain ⟨ys, h1, rfl⟩ := Option.map_eq_some_iff.mp h
    rw [List.length_cons, List.length_cons, mapO_len h1]
theorem snaps_ok {n : Nat} {os : List (Option Cell)} {P : V → R → Prop} (h : ∀ r v d, snapR os n r = some d → P v r → Rp K H v d) : ∀ (rs : List R) (vs : List V) (ds : List D), mapO (snapR os n) rs = some ds → (∀ (i : Nat) r, rs[i]? = some r → ∃ v, vs[i]? = some v ∧ P v r) → vs.length = rs.length → Rps K H vs ds
  | [], vs, _, e, _, l => by
    cases e
    have : vs = [] := List.length_eq_zero_iff.mp l
    rw [this]; exact .nil
  | r :: rs, vs, _, e, g, l => by
    obtain ⟨d, e1, e⟩ := bind_inv e
    obtain ⟨ds, e2, rfl⟩ := Option.map_eq_some_iff.mp e
    cases vs with
    | nil => cases l
    | cons v vs =>
      obtain ⟨v', e3, p⟩ := g 0 r rfl
      cases e3
      exact .cons (h r v d e1 p) (snaps_ok h rs vs ds e2 (fun i r hr => by simpa using g (i + 1) r (by simpa using hr)) (by simpa using l))
theorem snap_ok (k : Ok K A F H S σ) : ∀ (n : Nat) (r : R) (v : V) (d : D), snapR S.os n r = some d → Rr K A F v r → Rp K H v d := by
  intro n
  induction n with
  | zero =>
    intro r v d e q
    cases q with
    | dat q => cases e; exact Rp.mono k.sub.same.t _ _ q
    | own _ => cases e
    | scr _ _ => cases e
    | tup _ _ _ => cases e
    | exc _ _ => cases e
  | succ n ih =>
    intro r v d e q
    cases q with
    | dat q => cases e; exact Rp.mono k.sub.same.t _ _ q
    | scr _ _ => cases e
    | exc _ _ => cases e
    | tup hs hr hz =>
      obtain ⟨ds, e1, rfl⟩ := Option.map_eq_some_iff.mp e
      exact .tup (k.sub.same.t.old _ _ hs trivial) (snaps_ok ih _ _ _ e1 (fun i r h => hr.get h) hr.length) (by rw [mapO_len e1]; exact hz)
    | @own j a ha =>
      unfold snapR at e
      split at e
      · rename_i ds ej
        cases e
        obtain ⟨a', e1, fa, vs, hv, r, hz⟩ := k.cell j _ ej
        rw [ha] at e1; cases e1
        exact .lst hv (Rps.mono k.sub.same.t _ _ r) hz
      · rename_i rs ej
        obtain ⟨ds, e2, rfl⟩ := Option.map_eq_some_iff.mp e
        obtain ⟨a', e1, fa, vs, hv, r, hz⟩ := k.cell j _ ej
        rw [ha] at e1; cases e1
        exact .lst hv (snaps_ok ih _ _ _ e2 (fun i r' h => r.get h) r.length) (by rw [mapO_len e2]; exact hz)
      · cases e
theorem Ok.view (k : Ok K A F H S σ) : Ok K A H H (sealAll S) σ where
  sub := Sub.refl H
  len := by rw [← k.len]; simp [sealAll]
  alen := by rw [← k.alen]; simp [sealAll]
  nd := k.nd
  rslot := fun i r h => by
    unfold sealAll at h
    simp only [List.getElem?_map, Option.map_eq_some_iff] at h
    obtain ⟨x, hx, h⟩ := h
    unfold sealS at h
    split at h
    · rename_i ns
      cases h
      obtain ⟨v, e, q⟩ := k.rslot i _ hx
      exact ⟨v, e, q.mono (List.prefix_refl _) k.sub.same.t _ _⟩
    · rename_i c'
      cases h
      obtain ⟨v, e, q⟩ := k.rslot i _ hx
      exact ⟨v, e, q.mono (List.prefix_refl _) k.sub.same.t _ _⟩
    · rename_i r' nr nr2
      obtain ⟨d, e1, rfl⟩ := Option.map_eq_some_iff.mp h
      obtain ⟨v, e, q⟩ := k.rslot i _ hx
      exact ⟨v, e, .dat (snap_ok k _ _ _ _ e1 q)⟩
    · cases h
  cell := fun j c h => by
    unfold sealAll at h
    simp only [List.getElem?_map, Option.map_eq_some_iff] at h
    obtain ⟨_, _, h⟩ := h
    cases h
  trk := k.trk
  tab := k.tab.ext k.sub.same
end
section
variable {X : Cx} {e : Expr} {g : M D} {gt : M Bool}
def gView (g : M D) : M D := fun S => (g (sealAll S)).bind fun q => if hardD q.1 = true then some (q.1, S) else none
theorem e_view (h : GE X e g) : GE X e (gView g) := by
  obtain ⟨t, p, r⟩ := h.ex
  refine ⟨t, p, fun A F H S σ d S' Q k e post => ?_⟩
  obtain ⟨⟨d, S1⟩, e1, e⟩ := bind_inv e
  simp only at e
  split at e
  · rename_i hz
    cases e
    refine r A H H _ σ d S1 Q k.view e1 fun A1 F1 H1 v p1 s1 k1 r1 => ?_
    have sm : SameT H H1 := s1.trans k1.sub.same.t
    obtain ⟨s2, k2⟩ := k.newH sm
    exact post A _ H1 v (List.prefix_refl _) s2 k2 (Rp.hard (fun b xs q => newH_get k sm _ (k1.sub.same.t.old _ _ q trivial) (fun z => z)) _ _ hz r1)
  · cases e
end
end Fu

set_option maxHeartbeats 4000000
namespace L2
open PySem PySem.Spec PyProof.Rows
open Fu (XO)
/-! ### an exception that is looked at behind its suite: it is tracked from the suite's end on -/
section
variable {X : Cx} {pins : List (Addr × Obj)} {σ : St} {H : Hp} {s : Shared}
/-- an object that came to stand since the frame began, and that nobody tracks, is tracked -/
theorem adopt {a : Addr} {cls : Value} {o : Obj} {fs : Array Value} (I : Inv X pins σ H s) (na : H a = none) (ha : s.heap.get? a = some o) (hz : Zc cls none o) (hf : o.data = .fields fs) (h0 : X.s_0.heap.get? a = none) (nL : a ≠ X.env.locals)
    (hp : ∀ p ∈ X.pn ++ pins, p.1 ≠ a) : Inv X pins σ (upd H a (XO cls a)) s := by
  have ne : ∀ b u, H b = some u → b ≠ a := fun b u e z => by rw [z, na] at e; cases e
  have ne0 : ∀ b u, X.s_0.heap.get? b = some u → b ≠ a := fun b u e z => by rw [z, h0] at e; cases e
  have nc : ∀ x c, X.env.cells.lookup x = some c → c ≠ a := fun x c e z => by
    obtain ⟨v, o', ho', hd'⟩ := I.cell x c e
    rw [z, ha] at ho'; cases ho'
    rw [hf] at hd'; cases hd'
  refine ⟨I.ok, I.os, I.bare, ⟨I.base.keep, I.base.slot, fun b u e n hx => ?_, I.base.there, fun b xs e => ?_, fun b u xs e => ?_, fun b ps e => ?_⟩, I.loc, I.cell, ?_, fun x c e => ?_, fun p hm => ?_, fun b u e => ?_, I.len⟩
  · rw [upd_ne (ne0 b u e)]; exact I.base.free b u e n hx
  · have := I.base.tups b xs e
    rw [upd_ne (ne b _ this)]; exact this
  · have := I.base.frzs b u xs e
    rw [upd_ne (ne b _ this)]; exact this
  · obtain ⟨more, q⟩ := I.base.tbls b ps e
    exact ⟨more, by rw [upd_ne (ne b _ q)]; exact q⟩
  · rw [upd_ne (Ne.symm nL)]; exact I.free
  · rw [upd_ne (nc x c e)]; exact I.freeC x c e
  · obtain ⟨k1, k2, k3, k4, k5⟩ := I.pin p hm
    exact ⟨k1, by rw [upd_ne (hp p hm)]; exact k2, k3, k4, k5⟩
  · by_cases hb : b = a
    · subst hb
      rw [upd_same] at e
      cases e
      exact ⟨⟨o, fs, ha, hz, hf⟩, ⟨o, ha⟩, fun _ _ ⟨o', f', q, r⟩ k => ⟨o', f', k o' q, r⟩⟩
    · rw [upd_ne hb] at e
      exact (I.hok b u e).stay (fun _ _ _ q => q) (fun c q => by rw [upd_ne (ne c _ q)]; exact q) (fun c xs q => by rw [upd_ne (ne c _ q)]; exact q)
end
section
variable {X : Cx} {x n : Str} {c : Value} {i : Nat} {body suite : List Stmt} {b0 : Stmt} {np p1 p2 : Pos} {tb : WX → TS} {ts : Addr → Value → TS} {Wout : WX}
end
end L2

set_option maxHeartbeats 4000000
namespace L2
open PySem PySem.Spec PyProof.Rows
open Fu (Sub lpins forget remember lost_of mixH loose_there mix_held mix_free)
section
variable {X : Cx} {k : Nat} {f : Addr} {fd : FuncData} {ps : List Str} {sp : Sp} {W : WX} {x : Str} {p pos : Pos} {e : Expr} {es : List Expr} {t : TA}
end
end L2

set_option maxHeartbeats 4000000
namespace Fu
open PySem PySem.Spec PyProof.Rows L2 RZ
variable [TabsC]
/-! ### what may raise: mirrored with its refusals -/
def ClsD (K : PySem.W.Frag) (c : Str) (D : Addr) : Prop := PySem.W.nsIn K mainGlobals c = some (some (.ref D))
abbrev Zr (α : Type) := Except (Str × Sx) α
def ZErr (K : PySem.W.Frag) (W : WX) (A : List Addr) (F : Hp) (e : Str × Sx) : Prop := ∀ A' F' H' σ' D, A <+: A' → SameT F F' → Ok K A' F' H' e.2 σ' → ClsD K e.1 D → W (.ref D) none σ' H'
def RdEZ (K : PySem.W.Frag) (W : WX) (t : TE) (g : Sx → Option (Zr (D × Sx))) : Prop := ∀ A F H S σ r Q, Ok K A F H S σ → g S = some r →
  (∀ d S', r = .ok (d, S') → ∀ A' F' H' v, A <+: A' → SameT F F' → Ok K A' F' H' S' σ → Rp K F' v d → Q v H') → (∀ e, r = .error e → ZErr K W A F e) → t σ H Q
structure GEZ (X : Cx) (W : WX) (e : Expr) (g : Sx → Option (Zr (D × Sx))) : Prop where
  ex : ∃ t, PE X e t ∧ RdEZ X.K W t g
theorem ZErr.mono {K : PySem.W.Frag} {W : WX} {A A1 : List Addr} {F F1 : Hp} {e : Str × Sx} (p : A <+: A1) (s : SameT F F1) (h : ZErr K W A F e) : ZErr K W A1 F1 e := fun A' F' H' σ' D p' s' k c => h A' F' H' σ' D (p.trans p') (s.trans s') k c
section
variable {X : Cx} {W : WX} {pos p p2 : Pos} {x : Str} {e : Expr} {es : List Expr} {gs : M (List D)} {k n : Nat} {ps : List Str}
end
/-! ### statements that may raise -/
def RdSZ (K : PySem.W.Frag) (P : Hp → Prop) (W : WX) (t : TS) (g : Sx → Option (Zr Out)) : Prop := ∀ B A0 A F H S σ r (E : Ends), P B → SameT B F → A0 <+: A → Ok K A F H S σ → g S = some r → (∀ o, r = .ok o → OutP K B A0 o E) → (∀ e, r = .error e → ZErr K W A0 B e) → t E σ H
structure GZ (X : Cx) (P : Hp → Prop) (W : WX) (st : Stmt) (g : Sx → Option (Zr Out)) : Prop where
  ex : ∃ t, PS X st t ∧ RdSZ X.K P W t g
def zBe (g : Sx → Option (Zr (D × Sx))) (f : D → Sx → Option Out) : Sx → Option (Zr Out) := fun S => (g S).bind fun r => match r with
  | .ok q => (f q.1 q.2).map .ok
  | .error e => some (.error e)
def zSet (i : Nat) (g : Sx → Option (Zr (D × Sx))) := zBe g fun d S => some (.nx ⟨S.sl.set i (some (.dat d)), S.os⟩)
section
variable {X : Cx} {P : Hp → Prop} {W : WX} {st : Stmt} {sts : List Stmt} {g h : Sx → Option (Zr Out)} {e : Expr} {ge : Sx → Option (Zr (D × Sx))} {pos : Pos}
theorem z_set {x : Str} {pos' : Pos} (i : Nat) (hN : X.N.Nodup) (he : GEZ X W e ge) (hx : Loc X.env.scope x := by first | exact Or.inl rfl | exact Or.inr rfl) (hi : X.N[i]? = some x := by rfl) (hs : swapsWith e (some (.Name x pos')) pos.line X.env = pure false := by rfl)
    (hf : X.fn x = true ∨ X.env.scope.names.lookup x = some .local := by first | exact .inl rfl | exact .inr rfl | assumption) : GZ X P W (.Assign [.Name x pos'] e pos) (zSet i ge) := by
  obtain ⟨t, p1, r1⟩ := he.ex
  refine ⟨_, ps_set hN hi hx p1 hs hf, fun B A0 A F H S σ r E hP s p k e post err => ?_⟩
  obtain ⟨r0, e1, e⟩ := bind_inv e
  refine r1 A F H S σ r0 _ k e1 (fun d S1 e0 A1 F1 H1 v p1 s1 k1 rv => ?_) (fun er e0 => ?_)
  · subst e0; cases e
    exact post _ rfl A1 F1 H1 _ (s.trans s1) (p.trans p1) (k1.setDat rv)
  · subst e0; cases e
    exact fun A' F' H' σ' D p' s' k' c => err _ rfl A' F' H' σ' D (p.trans p') (s.trans s') k' c
end
/-! ### a def that may raise -/
section
variable {P : Program} {w : World} {K : PySem.W.Frag} {mg : Str → Option Value} {base : Heap} {x qual : Str} {st : Stmt} {f : Addr} {fd : FuncData} {N ps : List Str} {k n : Nat} {g : Sx → Option (Zr Out)}
end
end Fu

set_option maxHeartbeats 4000000
namespace L2
open PySem PySem.Spec PyProof.Rows
open Fu (XO)
end L2
namespace Fu
open PySem PySem.Spec PyProof.Rows L2 RZ
variable [TabsC]
/-! ### an exception in a slot -/
/-- what an exception of the class c is, seen by cv -/
def ExcIs (K : PySem.W.Frag) (c : Str) (cv : Value) (b : Bool) : Prop := ∀ D, ClsD K c D → ExcC K D ∧ PySem.W.kitOne K (.ref D) cv = some b
section
variable {X : Cx} {pos p p2 p3 : Pos} {y x : Str} {k : Nat}
end
/-! ### a def of one exception -/
section
variable {P : Program} {w : World} {K : PySem.W.Frag} {mg : Str → Option Value} {base : Heap} {x qual : Str} {st : Stmt} {f : Addr} {fd : FuncData} {N ps : List Str} {k n : Nat} {g : Sx → Option Out}
end
section
variable {X : Cx} {pos p py : Pos} {x y : Str} {k : Nat} {ps : List Str}
end
/-! ### try: .. except C as n: y = n -/
section
variable {X : Cx} {P : Hp → Prop} {body : List Stmt} {g : Sx → Option (Zr Out)} {pos p p1 p2 p3 p4 p5 : Pos} {x n y : Str} {W : WX}
end
end Fu

set_option maxHeartbeats 4000000
namespace Fu
open PySem PySem.Spec PyProof.Rows L2 RZ
variable [TabsC]
/-! ### the facts of the classes -/
theorem cls_same {K : PySem.W.Frag} {c : Str} {f D : Addr} (a : PySem.W.nsIn K mainGlobals c = some (some (.ref f))) (d : ClsD K c D) : D = f := by
  unfold ClsD at d
  rw [a] at d
  cases d; rfl
theorem ExcIs.mk {K : PySem.W.Frag} {c : Str} {f : Addr} {cv : Value} {b b' : Bool} (a : PySem.W.nsIn K mainGlobals c = some (some (.ref f))) (e : ExcC K f) (k : PySem.W.kitOne K (.ref f) cv = some b') (h : b' = b) : ExcIs K c cv b := fun D d => by
  cases cls_same a d
  exact ⟨e, h ▸ k⟩
theorem sub_self {K : PySem.W.Frag} {C : Addr} {bm : List Value} {n : String} (x : PySem.W.excIn K C bm n = true) : PySem.W.subIn K (.ref C) (.ref C) = some true := by
  unfold PySem.W.excIn at x
  split at x
  · rename_i dict cd sl e
    split at x
    · rename_i C' bm' h1 h2 h3 n' h4 em _
      simp only [Bool.and_eq_true, beq_iff_eq] at x
      obtain ⟨⟨⟨⟨⟨rfl, _⟩, _⟩, _⟩, _⟩, _⟩ := x
      simp only [PySem.W.subIn, PySem.W.mroIn, PySem.W.clsIn, e, Option.bind_some, em]
      simp
    · cases x
  · cases x
section
variable {X : Cx} {pos p p2 p3 p1 p4 p5 : Pos} {y x n : Str} {P : Hp → Prop} {body : List Stmt} {g : Sx → Option (Zr Out)}
end
end Fu

set_option maxHeartbeats 4000000
namespace L2
open PySem PySem.Spec PyProof.Rows
open Fu (XO)
end L2
namespace Fu
open PySem PySem.Spec PyProof.Rows L2 RZ
variable [TabsC]
/-! ### looks by many classes at once -/
section
variable {X : Cx} {pos p p2 p3 p4 : Pos} {y x : Str} {es : List Expr} {cs : List Str} {b b2 : Str → Bool}
end
/-! ### two new lists at once -/
section
variable {X : Cx} {P : Hp → Prop} {pos py : Pos} {x y : Str} {a b : Expr} {ga gb ge : M D}
/-- xs.clear(), xs.reverse() -/
def gClr (i : Nat) : M D := fun S => (ownOf S i).bind fun o => some (.none, setCell S o.1 [])
def gRev (i : Nat) : M D := fun S => (ownOf S i).bind fun o => some (.none, setCell S o.1 o.2.reverse)
theorem e_clear {apos : Pos} (i : Nat) (hN : X.N[i]? = some y := by rfl) (hv : Vis X.env.scope y := by first | exact Or.inl rfl | exact Or.inr (Or.inl rfl) | exact Or.inr (Or.inr rfl)) (hdy : (y == ("__debug__" : Str)) = false := by decide) (hcd : (y == ("__classdict__" : Str)) = false := by decide)
    (hbase : attributeBase (.Name y py) "clear" X.env (eval (.Name y py) X.env) = eval (.Name y py) X.env := by rfl) (hline : (apos.endLine == pos.line) = true := by rfl) : GE X (.Call (.Attribute (.Name y py) "clear" apos) [] [] pos) (gClr i) := by
  refine ⟨_, pe_bm0 PySem.F.plainAttrs_list PySem.F.slot_list_clear PySem.F.type_list_clear mt_clear (pe_var hN hv hdy hcd) hbase hline, fun A F H S σ d S' Q k h post => ?_⟩
  obtain ⟨⟨j, cs⟩, e0, h⟩ := bind_inv h
  cases h
  obtain ⟨a, vs, e1, e2, ha, ev, fa, hv0, rr, hz⟩ := own_at k e0
  refine ⟨_, ev, .inl ⟨rfl, _, SqL.of hv0⟩, a, vs, rfl, rfl, hv0, ?_⟩
  exact post A F _ _ (List.prefix_refl _) (SameT.refl F) (k.cellSet e2 ha trivial ⟨_, upd_same, .nil, Nat.zero_le _⟩) .non
theorem e_reverse {apos : Pos} (i : Nat) (hN : X.N[i]? = some y := by rfl) (hv : Vis X.env.scope y := by first | exact Or.inl rfl | exact Or.inr (Or.inl rfl) | exact Or.inr (Or.inr rfl)) (hdy : (y == ("__debug__" : Str)) = false := by decide) (hcd : (y == ("__classdict__" : Str)) = false := by decide)
    (hbase : attributeBase (.Name y py) "reverse" X.env (eval (.Name y py) X.env) = eval (.Name y py) X.env := by rfl) (hline : (apos.endLine == pos.line) = true := by rfl) : GE X (.Call (.Attribute (.Name y py) "reverse" apos) [] [] pos) (gRev i) := by
  refine ⟨_, pe_bm0 PySem.F.plainAttrs_list PySem.F.slot_list_reverse PySem.F.type_list_reverse mt_reverse (pe_var hN hv hdy hcd) hbase hline, fun A F H S σ d S' Q k h post => ?_⟩
  obtain ⟨⟨j, cs⟩, e0, h⟩ := bind_inv h
  cases h
  obtain ⟨a, vs, e1, e2, ha, ev, fa, hv0, rr, hz⟩ := own_at k e0
  refine ⟨_, ev, .inl ⟨rfl, _, SqL.of hv0⟩, a, vs, rfl, rfl, hv0, ?_⟩
  exact post A F _ _ (List.prefix_refl _) (SameT.refl F) (k.cellSet e2 ha trivial ⟨_, upd_same, rr.reverse, by rw [List.length_reverse]; exact hz⟩) .non
end
/-! ### more of what may raise -/
section
variable {X : Cx} {W : WX} {pos p : Pos} {x : Str} {e : Expr} {es : List Expr} {id : String} {k : Nat}
end
end Fu

set_option maxHeartbeats 4000000
namespace L2
open PySem PySem.Spec PyProof.Rows
open Fu (dictO)
/-! ### {t: v}, t a tuple of ints and texts: a dict, what it holds is not told -/
end L2
namespace Fu
open PySem PySem.Spec PyProof.Rows L2 RZ
variable [TabsC]
section
variable {X : Cx} {pos : Pos} {e v : Expr} {ge gv : M D} {k : Nat}
end
end Fu

set_option maxHeartbeats 4000000
namespace Fu
open PySem PySem.Spec PyProof.Rows L2
variable [TabsC]
section
variable {X : Cx} {pos apos p p2 sp c0 c1 : Pos} {a e o : Expr} {ga ge go : M D} {k : Nat} {y z : Str} {i : Int} {j j0 j1 : Nat}
/-! ### line[2].replace("b", "a"): the index gives out a token -/
/-! ### letters.index(sign) of a text -/
end
end Fu

set_option maxHeartbeats 4000000
namespace PySem
open Sem (wp)
set_option maxHeartbeats 4000000 in
section
variable {prog : Program} {w : World} {A : Around} {E : Value → Shared → Prop} {s : Shared}
end
end PySem
namespace L2
open PySem PySem.Spec PyProof.Rows
end L2
namespace Fu
open PySem PySem.Spec PyProof.Rows L2
variable [TabsC]
section
variable {X : Cx} {p pos : Pos} {e : Expr} {gs : M (List D)}
end
end Fu

set_option maxHeartbeats 4000000
namespace Fu
open PySem PySem.Spec PyProof.Rows L2
variable [TabsC]
/-! ### set & set -/
section
variable {P : Program} {w : World} {A : Around} {E : Value → Shared → Prop} {s : Shared}
end
end Fu

set_option maxHeartbeats 4000000
namespace Fu
open PySem PySem.Spec PyProof.Rows L2
variable [TabsC]
section
variable {P : Program} {w : World} {A : Around} {E : Value → Shared → Prop} {s : Shared}
end
/-! ### tracked sets of whole numbers -/
section
variable {X : Cx} {pos p p1 p2 p3 p4 p5 p6 p7 : Pos} {e e2 : Expr} {ge ge2 : M D}
section
variable {k : Nat} (hr : Room k X.A) (m1 : X.mg "set" = none) (ha : GE X e ge) (hb : GE X e2 ge2)
include hr m1 ha hb in
include hr m1 ha hb in
end
end
end Fu

set_option maxHeartbeats 4000000
namespace Fu
open PySem PySem.Spec PyProof.Rows L2
variable [TabsC]
section
variable {X : Cx} {pos apos p p2 : Pos} {a e o : Expr} {es : List Expr} {ga ge go : M D} {gs : M (List D)}
/-! ### str(n), int(text) -/
/-! ### split, partition, join -/
end

/-! ### head, *rest = a list -/
section
variable {prog : Program} {w : World} {A : Around} {E : Value → Shared → Prop} {s : Shared}
end
section
variable {X : Cx} {pos p : Pos} {e : Expr} {es : List Expr} {tg ts : List Nat} {g : D → Sx → Option Sx} {gs : List D → Sx → Option Sx}
def sStar1 (gs : List D → Sx → Option Sx) : D → Sx → Option Sx := fun d S => match d with
  | .list (d :: ds) => gs [d, .list ds] S
  | _ => none
end
end Fu

set_option maxHeartbeats 4000000
/-! sorted(it, key=f) where the keys may hold lists, over any source -/
namespace SrtL
open PySem PySem.W PySem.Calls PyProof.Rows
variable {pg : Program} {wd : World} {A : Around} {E : Value → Shared → Prop} {s : Shared} {l kL : Addr} {rv : Bool} {us : List Value} {z1 : Nat} {Pf : PySem.Fin → Shared → Prop} {kds : List PyData}
/-- a turn: f(x) tells the key k; the lists that it reads stood in h1 -/
def Tells (J : Shared → Prop) (h1 : Heap) (k : PyData) (s1 : Shared) (u : Value) (s2 : Shared) : Prop :=
  J s2 ∧ (∀ b o, s1.heap.get? b = some o → s2.heap.get? b = some o) ∧ ∃ as, Reads s2.heap u k as ∧ ∀ x ∈ as, h1.get? x ≠ none
/-- the keys so far -/
def Here (h1 h : Heap) (u : Value) (d : PyData) : Prop := ∃ as, Reads h u d as ∧ alike d d = true ∧ ∀ x ∈ as, h1.get? x ≠ none
theorem Here.keeps {h1 h h' : Heap} {u : Value} {d : PyData} (k : ∀ b o, h.get? b = some o → h'.get? b = some o) (q : Here h1 h u d) : Here h1 h' u d := by
  obtain ⟨as, r, e, m⟩ := q
  exact ⟨as, PyProof.Rows.Reads.keeps k r, e, m⟩
theorem rest {f : Value} {h1 : Heap} (J : Shared → Prop) (hJ : ∀ t g n, J t → J { t with heap := g, toks := n }) (hj : J s)
    (kp : KeepsBut l h1 s.heap) (n1 : h1.get? kL = none) (n2 : s.heap.get? kL = some (seqObj "list" #[] 0)) (n3 : s.heap.get? l = some (seqObj "list" #[] z1)) (ne : kL ≠ l)
    (len : kds.length = us.length) (few : us.length ≤ sizeLine) (al : AllAlike kds) (so : Sortable kds) (un : ∀ d, d ∈ kds → A.units + d.depth < cLine)
    (turn : ∀ (i : Nat) (v : Value) (k : PyData), us[i]? = some v → kds[i]? = some k → ∀ t : Shared, J t → KeepsBut l h1 t.heap → wpAny (model pg wd) A (call f [v]) (Tells J h1 k t) (fun _ _ => False) t)
    (fin : ∀ (t : Shared) out c, J t → KeepsBut l h1 t.heap → t.heap.get? l = some (seqObj "list" (List.toArray out) c) → KeyedOut rv kds us out → Pf (.done (.ret .none)) t) :
    wpAny (model pg wd) A (ksk_rest l f rv us.toArray z1 (.ref kL)) Pf E s := by
  unfold ksk_rest
  refine wpAny_bind (wpAny_rule ?_)
  first | rw [List.forIn_toArray] | (rw [← Array.forIn_toList]; simp only [List.toList_toArray])
  let St : Nat → Shared → Prop := fun i t => ∃ (kA : Array Value) (n : Nat), J t ∧ KeepsBut l h1 t.heap ∧ t.heap.get? kL = some (seqObj "list" kA n) ∧ t.heap.get? l = some (seqObj "list" #[] z1) ∧ EachIs (Here h1 t.heap) kA.toList (kds.take i)
  have st0 : St 0 s := ⟨#[], 0, hj, kp, n2, n3, by rw [List.take_zero]; exact EachIs.nil⟩
  refine wpAny_bind (ksk_fold St us 0 s st0 ?go ?done)
  case go =>
    rintro j x t hx ⟨kA, n, hjt, kpt, m2, m3, hk⟩
    simp only [Nat.zero_add] at hk ⊢
    have hj' : j < us.length := (List.getElem?_eq_some_iff.mp hx).1
    obtain ⟨d, hd⟩ : ∃ d, kds[j]? = some d := ⟨_, List.getElem?_eq_getElem (by omega)⟩
    have dd : alike d d = true := al d (List.mem_of_getElem? hd) d (List.mem_of_getElem? hd)
    have small : kA.size ≤ us.length := by
      have e1 := hk.length
      simp only [Array.length_toList, List.length_take] at e1
      omega
    refine wpAny_bind (wpAny_attempt (wpAny_mono (turn j x d hx hd t hjt kpt) (fun v t2 he => ?_) fun _ _ no => no.elim))
    obtain ⟨j2, kp2, as, rd, old⟩ := he
    have p2 : t2.heap.get? kL = some (seqObj "list" kA n) := kp2 _ _ m2
    have p3 : t2.heap.get? l = some (seqObj "list" #[] z1) := kp2 _ _ m3
    have sb := Heap.SameBut.update t2.heap kL (Obj.mapSeq (·.push v))
    obtain ⟨n', hn'⟩ : ∃ n', (t2.heap.update kL (Obj.mapSeq (·.push v))).get? kL = some (seqObj "list" (kA.push v) n') := ⟨_, get?_update_seq p2 (·.push v)⟩
    refine wpAny_bind (listUpdate_at p2 rfl ?_ (Nat.le_trans small few) (by rw [Array.size_push]; exact Nat.succ_le_succ (Nat.le_trans small few)))
    have ok : ∀ (u : Value) (e : PyData), Here h1 t2.heap u e → Here h1 (t2.heap.update kL (Obj.mapSeq (·.push v))) u e := fun u e ⟨bs, r, q, m⟩ =>
      ⟨bs, Reads.keepBut (a := kL) (fun b o nb eb => (sb.2 b nb).trans eb) (fun o eb => by rw [p2] at eb; cases eb; rfl) e u bs q r (fun z => m kL z n1), q, m⟩
    have stepKp : KeepsBut l h1 (t2.heap.update kL (Obj.mapSeq (·.push v))) := (kpt.trans_all kp2).same sb (.inr n1)
    have each : EachIs (Here h1 (t2.heap.update kL (Obj.mapSeq (·.push v)))) (kA.push v).toList (kds.take (j + 1)) := by
      have e1 : kds.take (j + 1) = kds.take j ++ [d] := by rw [List.take_add_one, hd]; rfl
      rw [e1, Array.toList_push]
      exact each_snoc (ok v d ⟨as, rd, dd, old⟩) (hk.mono fun u e q => ok u e (q.keeps kp2))
    exact wpAny_pure ⟨rfl, kA.push v, n', hJ _ _ _ j2, stepKp, hn', (sb.2 l ne.symm).trans p3, each⟩
  case done =>
    rintro t ⟨kA, n, hjt, kpt, m2, m3, hk⟩
    have all : kds.take (0 + us.length) = kds := List.take_of_length_le (by omega)
    rw [all] at hk
    have hk2 : EachIs (fun v k => ∃ as, Reads t.heap v k as) kA.toList kds := hk.mono fun v k ⟨as, q, _⟩ => ⟨as, q⟩
    have sz : kA.size = us.length := by
      have e1 := hk2.length
      simp only [Array.length_toList] at e1
      omega
    refine wpAny_bind (listItems_at m2 rfl ?_)
    refine keyH_end (κ := dataKind t.heap kds) (h₁ := h1) kpt n1 m2 m3 ne (SortsAt.data (s := t) hk2 al so un) sz few fun h3 tk3 c k3 n4 => ?_
    exact fin _ _ c (hJ _ _ _ hjt) k3 n4 ⟨t.heap, kA.toList, al, rfl, hk2⟩
end SrtL

set_option maxHeartbeats 4000000
/-! a lambda of one parameter: (-len(ends), ends) -/
namespace SrtL
open PySem PySem.W PySem.Calls PyProof.Rows PySem.Spec
section
variable {pg : Program} {wd : World} {A : Around} {E : Value → Shared → Prop} {t : Shared} {mg mb : Str → Option Value}
end
end SrtL

set_option maxHeartbeats 4000000
/-! sorted(d.values(), key=lambda ends: (-len(ends), ends)) -/
namespace SrtL
open PySem PySem.Spec PyProof.Rows L2
section
variable {X : Cx} {pins : List (Addr × Obj)} {σ : L2.St} {H : Hp} {s : Shared}
end
section
variable [Fu.TabsC] {X : Cx} {pins : List (Addr × Obj)} {σ : L2.St} {H : Hp} {s : Shared}
end
section
variable [Fu.TabsC] {X : Cx}
end
end SrtL

set_option maxHeartbeats 4000000
/-! a dict of own lists: {}, d.setdefault(k, []).append(x), sorted(d.values(), key=..) -/
namespace Fu
open PySem PySem.Spec PyProof.Rows L2
variable [TabsC]
section
variable {K : PySem.W.Frag} {A : List Addr} {F : Hp}
end
section
variable {X : Cx} {P : Hp → Prop} {pos pd py pz pl ap1 ap2 cp1 cp2 : Pos} {ek : Expr} {gk : M D} {y z : Str}
/-! ### sorted(d.values(), key=lambda ends: (-len(ends), ends)) -/
end

/-! ### a def whose code object is known -/
section
variable {P : Program} {w : World} {K : PySem.W.Frag} {mg : Str → Option Value} {base : Heap} {x : Str} {st : Stmt} {N ps : List Str} {k n : Nat} {g : Sx → Option Out}
end
end Fu

set_option maxHeartbeats 4000000
/-! the end of a law whose defs make lambdas -/
namespace Fu
open PySem PySem.Spec PyProof.Rows L2
section
variable [TabsC]
variable {P : Program} {w : World} {K : PySem.W.Frag} {mg : Str → Option Value} {base : Heap} {x qual : Str} {st : Stmt} {f : Addr} {fd : FuncData} {N ps : List Str} {k n : Nat} {g : Sx → Option Out}
end
section
variable [TabsC]
variable {P : Program} {w : World} {K : PySem.W.Frag} {mg : Str → Option Value} {base : Heap} {x qual : Str} {st : Stmt} {f : Addr} {fd : FuncData} {N ps : List Str} {k n : Nat} {g : Sx → Option Out}
end
/-- where no lambda is made -/
instance (priority := low) noTabs : TabsC := ⟨[], []⟩
end Fu

set_option maxHeartbeats 4000000
/-! sorted(set([ints])) -/
namespace SetL
open PySem PySem.Calls PyProof.Rows L2
section
variable {pg : Program} {wd : World} {A : Around} {E : Value → Shared → Prop} {s : Shared}
end
section
variable {pg : Program} {wd : World} {A : Around} {R : Result → Shared → Prop} {I : Addr} {fp wr : List Addr} {G : Array GenState → Array GenState → Prop} {n : Nat} {P : Nat → Value → Prop} {St : Nat → Shared → Prop}
/-- what has come of the first i -/
def Got (w : World) (h : Heap) (a : Addr) (val : Nat → Int) (i : Nat) : Prop := SetR w h a (fun k => (firstMet val i).any (· == k)) (firstMet val i).length
theorem loop (W : WalksS pg wd A.in1 I fp wr G n P St) (a : Addr) (out : a ∉ fp) (val : Nat → Int) (isI : ∀ i v, P i v → ∃ t, v = .int (val i) t) (room : n + 1 < scanBound) :
    ∀ (m i : Nat) (s : Shared), n - i = m → i ≤ n → St i s → Got wd s.heap a val i → (∀ t, Moved (a :: wr) G s t → Got wd t.heap a val n → R (.ok (.ret .none)) t) → codeAny (model pg wd) A (.builtin "set.update.loop" ⟨[.ref a, .ref I], []⟩) R s := by
  have nw : a ∉ wr := fun h => out (W.sub _ h)
  have up : ∀ b ∈ wr, b ∈ a :: wr := fun b hb => List.mem_cons_of_mem _ hb
  intro m
  induction m with
  | zero =>
    intro i s e1 e2 st got fin
    obtain rfl : i = n := by omega
    refine codeAny_builtin PyProof.Rows.F.entry_set_update_loop ?_
    rw [Around.under_plainId PyProof.Rows.F.plain_set_update_loop _]
    show wpAny _ A.in1 (pyNext (.ref I) >>= _) _ _ s
    refine wpAny_bind (W.done s _ _ st fun t mv => ?_)
    show wpAny _ A.in1 (ret Value.none) _ _ t
    exact wpAny_pure (fin t (mv.mono up) (SetR.at got fun o e => mv.heap a o nw e))
  | succ m ih =>
    intro i s e1 e2 st got fin
    have lt : i < n := by omega
    refine codeAny_builtin PyProof.Rows.F.entry_set_update_loop ?_
    rw [Around.under_plainId PyProof.Rows.F.plain_set_update_loop _]
    show wpAny _ A.in1 (pyNext (.ref I) >>= _) _ _ s
    refine wpAny_bind (W.item i s _ _ lt st fun v t hP st2 mv => ?_)
    obtain ⟨tk, rfl⟩ := isI i v hP
    have got2 : Got wd t.heap a val i := SetR.at got fun o e => mv.heap a o nw e
    show wpAny _ A.in1 (holding [Value.int (val i) tk] (setAdd a (.int (val i) tk)) >>= _) _ _ t
    refine wpAny_bind (wpAny_holding ?_)
    unfold setAdd
    refine wpAny_holding ?_
    refine wpAny_bind ((intKind pg wd).pyHash (k := val i) (intKind_is _ _ _ _) ?_)
    have few : (firstMet val i).length + 1 < scanBound := by have := firstMet_length_le val i; omega
    refine setR_add_hashed (P := pg) (s := { t with toks := t.toks + 1 }) got2 few fun g sb r => ?_
    have got3 : Got wd g a val (i + 1) := by
      unfold Got
      have e : (fun k => (firstMet val (i + 1)).any (· == k)) = fun j => (firstMet val i).any (· == j) || decide (j = val i) := by
        funext k
        rw [firstMet_succ, step_any]
      have e' : (firstMet val (i + 1)).length = if (firstMet val i).any (· == val i) = true then (firstMet val i).length else (firstMet val i).length + 1 := by rw [firstMet_succ, step_length]
      rw [e, e']
      exact r
    refine wpAny_pure ⟨plainId_quiet PyProof.Rows.F.plain_set_update_loop _, ih (i + 1) _ (by omega) lt (W.frame _ t _ _ st2 (Nat.le_succ _) fun b hb o e => ?_) got3 fun t2 mv2 got4 => ?_⟩
    · rw [sb.2 b (fun z : b = a => out (z ▸ hb))]; exact e
    · refine fin t2 (Moved.trans W.gtrans ((mv.mono up).then_heap (Nat.le_succ _) fun b o hb e => ?_) mv2) got4
      rw [sb.2 b (fun z : b = a => hb (z ▸ List.mem_cons_self))]; exact e
end
section
variable {pg : Program} {wd : World} {A : Around} {E : Value → Shared → Prop} {s : Shared}
end
end SetL

set_option maxHeartbeats 4000000
/-! set([ints]) with its members, sorted -/
namespace SetL
open PySem PySem.Spec PySem.Calls PyProof.Rows L2
section
variable {X : Cx}
end
end SetL

set_option maxHeartbeats 4000000
/-! sorted(set(xs)), xs fewer than 64 ints -/
namespace Fu
open PySem PySem.Spec PySem.Calls PyProof.Rows L2 SetL
section
variable [TabsC] {X : Cx} {pos p p2 pos2 : Pos} {e : Expr} {gs : M (List D)}
end
end Fu

set_option maxHeartbeats 4000000
/-! sum(lists, []) -/
namespace SumL
open PySem PySem.Calls PyProof.Rows L2
def L1 (h : Heap) (a : Addr) (its : Array Value) : Prop := ∃ n, h.get? a = some { cls := .type "list", data := .seq its n }
theorem L1.at {h g : Heap} {a : Addr} {its : Array Value} (k : L1 h a its) (f : ∀ o, h.get? a = some o → g.get? a = some o) : L1 g a its := k.elim fun n e => ⟨n, f _ e⟩
/-- the first i lists, one behind the other -/
def pre (cs : Nat → Array Value) : Nat → Array Value
  | 0 => #[]
  | i + 1 => pre cs i ++ cs i
section
variable {pg : Program} {wd : World} {A : Around} {R : Result → Shared → Prop} {I : Addr} {fp wr : List Addr} {G : Array GenState → Array GenState → Prop} {n : Nat} {P : Nat → Value → Prop} {St : Nat → Shared → Prop}
theorem loop (W : WalksS pg wd A.in1 I fp wr G n P St) (h₀ : Heap) (cs : Nat → Array Value) (ad : Nat → Addr) (isR : ∀ (i : Nat) (v : Value), P i v → v = Value.ref (ad i)) (hcs : ∀ i, i < n → L1 h₀ (ad i) (cs i)) (room : ∀ i, i < n → (pre cs i).size + (cs i).size ≤ sizeLine)
    (S : Addr) (hSf : S ∉ fp) (hSz : h₀.objs.size ≤ S) (hw0 : ∀ b ∈ wr, h₀.objs.size ≤ b ∧ b < S) (T0 : Addr) (hT0 : L1 h₀ T0 #[]) :
    ∀ (k i : Nat) (s : Shared) (T : Addr) (c : Nat), n - i = k → i ≤ n → St i s → s.heap.get? S = some { cls := .type "list", dict := none, data := .seq #[.ref T] c, slots := #[] } →
    (∀ b o, h₀.get? b = some o → s.heap.get? b = some o) → L1 s.heap T (pre cs i) → T ∉ S :: wr → (i = 0 → T = T0) → (0 < i → h₀.objs.size ≤ T) →
    (∀ s' T', Moved (S :: wr) G s s' → (∀ b o, h₀.get? b = some o → s'.heap.get? b = some o) → L1 s'.heap T' (pre cs n) → (n = 0 → T' = T0) → (0 < n → h₀.objs.size ≤ T') → R (.ok (.ret (.ref T'))) s') →
    codeAny (model pg wd) A (.builtin "sum.loop" ⟨[.ref I, .ref S, rawInt 2, rawInt 0], []⟩) R s := by
  have hSw : S ∉ wr := fun h => hSf (W.sub _ h)
  have hsub : ∀ b ∈ wr, b ∈ S :: wr := fun b hb => List.mem_cons_of_mem _ hb
  have old : ∀ b o, h₀.get? b = some o → b ∉ S :: wr := fun b o e hb => by
    have hlt := Heap.lt_size e
    rcases List.mem_cons.mp hb with rfl | hb
    · exact Nat.not_lt_of_le hSz hlt
    · exact Nat.not_lt_of_le (hw0 b hb).1 hlt
  intro k
  induction k with
  | zero =>
    intro i s T c hk hi hst hS kp hT hTn t0 t1 hR
    have hin : i = n := by omega
    subst hin
    refine codeAny_builtin PySem.F.entry_sum_loop ?_
    rw [Around.under_plainId PySem.F.plain_sum_loop _]
    show wpAny _ A.in1 (seqItems? (.ref S) >>= _) _ _ s
    refine wpAny_bind (wpAny_seqItems hS rfl ?_)
    show wpAny _ A.in1 (tryCatch (pyNext (.ref I)) _ >>= _) _ _ s
    refine wpAny_bind (wpAny_tryCatch (W.done s _ _ hst fun s' hm => ?_))
    exact wpAny_pure (hR s' T (hm.mono hsub) (fun b o e => hm.heap b o (fun z => old b o e (hsub b z)) (kp b o e)) (hT.at fun o e => hm.heap T o (fun z => hTn (hsub _ z)) e) t0 t1)
  | succ k ih =>
    intro i s T c hk hi hst hS kp hT hTn t0 t1 hR
    have hlt : i < n := by omega
    refine codeAny_builtin PySem.F.entry_sum_loop ?_
    rw [Around.under_plainId PySem.F.plain_sum_loop _]
    show wpAny _ A.in1 (seqItems? (.ref S) >>= _) _ _ s
    refine wpAny_bind (wpAny_seqItems hS rfl ?_)
    show wpAny _ A.in1 (tryCatch (pyNext (.ref I)) _ >>= _) _ _ s
    refine wpAny_bind (wpAny_tryCatch (W.item i s _ _ hlt hst fun v s' hP hst' hm => ?_))
    obtain rfl := isR i v hP
    have hS' := hm.heap S _ hSw hS
    have kp' : ∀ b o, h₀.get? b = some o → s'.heap.get? b = some o := fun b o e => hm.heap b o (fun z => old b o e (hsub b z)) (kp b o e)
    obtain ⟨n1, hT'⟩ := hT.at fun o e => hm.heap T o (fun z => hTn (hsub _ z)) e
    obtain ⟨n2, hI'⟩ := (hcs i hlt).at fun o e => kp' _ o e
    show wpAny _ A.in1 ((holding [Value.ref (ad i)] (binaryOp .Add (.ref T) (.ref (ad i)))).attempt >>= _) _ _ _
    refine wpAny_bind (wpAny_attempt (wpAny_holding (PySem.P.add_list hT' hI' ?_ (room i hlt))))
    show wpAny _ A.in1 (updateSeq S (fun _ => #[.ref s'.heap.objs.size]) >>= _) _ _ _
    have hSl : S < s'.heap.objs.size := Heap.lt_size hS'
    have hS1 : (s'.heap.push { cls := .type "list", data := .seq (pre cs i ++ cs i) }).get? S = _ := Heap.get?_push_of_some _ hS'
    refine wpAny_bind (wpAny_updateSeq hS1 rfl ?_)
    have hS₂ := Heap.get?_update_self (Obj.mapSeq fun _ => #[Value.ref s'.heap.objs.size]) hS1 rfl
    refine wpAny_bind (wpAny_letGo ?_)
    have up : ∀ b o, b ≠ S → s'.heap.get? b = some o → (((s'.heap.push { cls := .type "list", data := .seq (pre cs i ++ cs i) }).update S (Obj.mapSeq fun _ => #[Value.ref s'.heap.objs.size])).update S (Obj.mapSeq fun _ => #[Value.ref s'.heap.objs.size])).get? b = some o := fun b o hb e =>
      (Heap.get?_update_other _ _ (fun h : S = b => hb h.symm)).trans ((Heap.get?_update_other _ _ (fun h : S = b => hb h.symm)).trans (Heap.get?_push_of_some _ e))
    have hnew : (((s'.heap.push { cls := .type "list", data := .seq (pre cs i ++ cs i) }).update S (Obj.mapSeq fun _ => #[Value.ref s'.heap.objs.size])).update S (Obj.mapSeq fun _ => #[Value.ref s'.heap.objs.size])).get? s'.heap.objs.size = some { cls := .type "list", data := .seq (pre cs i ++ cs i) } :=
      (Heap.get?_update_other _ _ (fun h : S = _ => Nat.ne_of_lt hSl h)).trans ((Heap.get?_update_other _ _ (fun h : S = _ => Nat.ne_of_lt hSl h)).trans (Heap.get?_push_size _ rfl))
    refine wpAny_bind (wpAny_updateSeq hS₂ rfl (wpAny_pure ⟨plainId_quiet PySem.F.plain_sum_loop _, ih (i + 1) _ s'.heap.objs.size _ (by omega) hlt (W.frame _ s' _ _ hst' (Nat.le_refl _) fun b hb o e => up b o (fun z => hSf (z ▸ hb)) e) (Heap.get?_update_self _ hS₂ rfl) (fun b o e => up b o (fun z => old b o e (z ▸ List.mem_cons_self)) (kp' b o e)) ⟨_, hnew⟩ (fun z => ?_) (fun z => absurd z (Nat.succ_ne_zero _)) (fun _ => Nat.le_of_lt (Nat.lt_of_le_of_lt hSz hSl)) fun s'' T'' hm'' k'' l'' z0 z1 => ?_⟩))
    · rcases List.mem_cons.mp z with z | z
      · exact Nat.ne_of_gt hSl z
      · exact Nat.lt_irrefl _ (Nat.lt_trans hSl (hw0 _ z).2)
    · refine hR s'' T'' (Moved.trans W.gtrans ((hm.mono hsub).then_heap (Nat.le_refl _) fun b o hb e => ?_) hm'') k'' l'' z0 z1
      exact up b o (fun z => hb (z ▸ List.mem_cons_self)) e
end
section
variable {pg : Program} {wd : World} {A : Around} {E : Value → Shared → Prop} {s : Shared}
end
end SumL

set_option maxHeartbeats 4000000
/-! sum(lists, []): the layer's rule -/
namespace Fu
open PySem PySem.Spec PySem.Calls PyProof.Rows L2 SumL
section
variable {X : Cx}
end
/-! the data -/
section
variable [TabsC]
variable {X : Cx} {pos p p2 : Pos} {e : Expr} {es : List Expr} {gs : M (List D)}
end
end Fu

set_option maxHeartbeats 4000000
/-! xs.remove(x) of an own list -/
namespace Fu
open PySem PySem.Spec PyProof.Rows L2
variable [TabsC]
section
variable {X : Cx} {pos py apos : Pos} {e : Expr} {ge : M D} {k : Nat} {y : Str}
end
end Fu

set_option maxHeartbeats 4000000
/-! (a, b) = a tuple or a list -/
namespace Fu
open PySem PySem.Spec PyProof.Rows L2
variable [TabsC]
section
variable {X : Cx} {pos : Pos} {es : List Expr} {gs : List D → Sx → Option Sx} {ts : List Nat} {n : Nat}
end
end Fu

set_option maxHeartbeats 4000000
/-! name = [..] on one line, in a look -/
namespace Fu
open PySem PySem.Spec PyProof.Rows L2
variable [TabsC]
section
variable {X : Cx} {P : Hp → Prop} {ge : M D}
end
end Fu

set_option maxHeartbeats 4000000
/-! {k: v for ..} as an own cell, d.get(k, v), len(d), dict(pairs) -/
namespace Fu
open PySem PySem.Spec PyProof.Rows L2 RZ
variable [TabsC]
abbrev MD := Sx → Option (List (Key × R) × Sx)
section
variable {K : PySem.W.Frag}
end
section
variable {X : Cx} {pos : Pos} {kx vx tg iter : Expr} {ifs : List Expr} {scope : Scope} {gi : M (List D)} {gg : D → Sx → Option Sx} {gt : M Bool} {gk ge : M D} {tgt : List Nat} {P : Hp → Prop}
variable {p py : Pos} {y : Str}
end
end Fu

set_option maxHeartbeats 4000000
/-! dict(pairs), n in d.values() -/
namespace InV
open PySem PySem.Calls PyProof.Rows L2
theorem ci_entry : entryFor table "proto.contains_iter" = some Builtin.«proto.contains_iter» := entryFor_of_tree (by kernel_rfl)
theorem ci_plain : plainId "proto.contains_iter" = true := by decide +kernel
section
variable {pg : Program} {wd : World} {K : Type} [DecidableEq K] {knd : KeyKind pg wd K} {A : Around} {E : Value → Shared → Prop}
theorem loop {R : Result → Shared → Prop} (hh : A.handled = none) (h₀ : Heap) {it d : Addr} {ep : Nat} {kvs : List (K × Value)} (ms : List Int) (n : Int) (tn : Tok) (hit0 : h₀.get? it = none) (hne : d ≠ it)
    (hv : ∀ (i : Nat) (k : K) (v : Value), kvs[i]? = some (k, v) → ∃ m t, ms[i]? = some m ∧ v = .int m t) (hlen : kvs.length = ms.length) :
    ∀ (k i : Nat) (s : Shared), ms.length - i = k → i ≤ ms.length → s.heap.IsValIter it d i kvs.length ep → s.heap.DictAt knd d kvs ep → (∀ b o, h₀.get? b = some o → s.heap.get? b = some o) →
    (∀ h', (∀ b o, h₀.get? b = some o → h'.get? b = some o) → R (.ok (.ret (.bool ((ms.drop i).contains n)))) { s with heap := h' }) →
    codeAny (model pg wd) A (.builtin "proto.contains_iter" ⟨[.ref it, .int n tn], []⟩) R s := by
  intro k
  induction k with
  | zero =>
    intro i s hk hi hst hd kp hR
    have hin : i = ms.length := by omega
    subst hin
    refine codeAny_builtin ci_entry ?_
    rw [Around.under_plainId ci_plain _]
    show wpAny _ A.in1 (pyNext (.ref it) >>= _) _ _ s
    refine wpAny_bind (wpAny_pyNext_values_end (A := A.in1) (by simp [hh]) hst hd (by rw [List.getElem?_eq_none]; omega) fun h' he => ?_)
    have := hR h' fun b o e => he b o (fun z => by subst z; rw [hit0] at e; cases e) (kp b o e)
    rw [List.drop_length] at this
    exact wpAny_bind (wpAny_rule (wpAny_pure this))
  | succ k ih =>
    intro i s hk hi hst hd kp hR
    have hlt : i < ms.length := by omega
    obtain ⟨⟨ky, v⟩, hx⟩ : ∃ p, kvs[i]? = some p := ⟨kvs[i], by simp [hlen, hlt]⟩
    obtain ⟨m, t, em, rfl⟩ := hv i ky v hx
    refine codeAny_builtin ci_entry ?_
    rw [Around.under_plainId ci_plain _]
    show wpAny _ A.in1 (pyNext (.ref it) >>= _) _ _ s
    refine wpAny_bind (wpAny_pyNext_values_item hst hd hx fun h' hit' hs' => ?_)
    refine wpAny_bind (wpAny_eqBool_int ?_)
    have kp' : ∀ b o, h₀.get? b = some o → h'.get? b = some o := fun b o e => hs'.extBut b o (fun z => by subst z; rw [hit0] at e; cases e) (kp b o e)
    have ed : ms.drop i = m :: ms.drop (i + 1) := by
      rw [List.drop_eq_getElem_cons hlt]
      congr 1
      rw [List.getElem?_eq_getElem hlt] at em
      exact Option.some.inj em
    cases hb : (m == n) with
    | true =>
      simp only [if_true]
      refine wpAny_bind (wpAny_rule (wpAny_pure ?_))
      have := hR h' kp'
      rw [ed, List.contains_cons] at this
      have e : n = m := (eq_of_beq hb).symm
      subst e
      simpa using this
    | false =>
      simp only [Bool.false_eq_true, if_false]
      refine wpAny_pure ⟨plainId_quiet ci_plain _, ih (i + 1) _ (by omega) hlt hit' (hd.extBut hs'.extBut hne) kp' fun h'' kp'' => ?_⟩
      have := hR h'' kp''
      rw [ed, List.contains_cons] at this
      have e : (n == m) = false := by
        rw [beq_eq_false_iff_ne] at hb ⊢
        exact fun z => hb z.symm
      rw [e, Bool.false_or] at this
      exact this
end
section
variable {X : Cx}
end
end InV
namespace Fu
open PySem PySem.Spec PyProof.Rows L2 InV
variable [TabsC]
def intVals : List (Key × R) → Option (List Int)
  | [] => some []
  | (_, .dat (.int n)) :: r => (intVals r).bind fun ns => some (n :: ns)
  | _ => none
theorem vals_ints {K : PySem.W.Frag} {A : List Addr} {F : Hp} : ∀ {vs : List (Key × V)} {kvs : List (Key × R)} {ns : List Int}, PairR K A F vs kvs → intVals kvs = some ns → vs.map (·.2) = ns.map V.int
  | _, _, _, .nil, h => by cases h; rfl
  | (k1, v) :: vs, (k2, r) :: kvs, ns, .cons ⟨e, h⟩ t, hi => by
    cases r with
    | dat d =>
      cases d with
      | int n =>
        obtain ⟨ns', h1, h2⟩ := bind_inv hi
        cases h2
        have h : Rr K A F v (.dat (.int n)) := h
        cases h with
        | dat h =>
          cases rp_int_inv h
          rw [List.map_cons, List.map_cons, vals_ints t h1]
      | _ => cases hi
    | _ => cases hi
section
variable {X : Cx} {pos py apos cpos p : Pos} {e e0 : Expr} {ge : M D} {y : Str} {gs : M (List D)}
end
/-! ### dict(pairs) -/
section
variable {X : Cx} {pos p : Pos} {e : Expr} {gs : M (List D)}
end
end Fu

set_option maxHeartbeats 4000000
/-! {k: v} with a number or a text as its key, held as data: what it holds is not told -/
namespace Fu
open PySem PySem.Spec PyProof.Rows L2
variable [TabsC]
section
variable {X : Cx} {e v : Expr} {pos : Pos} {ge gv : M D}
end
end Fu

set_option maxHeartbeats 4000000
/-! sorted(set([texts])) -/
namespace SetS
open PySem PySem.Calls PyProof.Rows L2 PySem.Froz
section
variable {P : Program} {w : World} {h h' : Heap} {a : Addr} {l : List Str}
/-- the set of texts at a, its members l; its table rises and can be walked -/
def SetT (P : Program) (w : World) (h : Heap) (a : Addr) (l : List Str) : Prop := ∃ D : SD, h.get? a = some (sObj "set" D) ∧ TxOk P w D l ∧ l.Nodup ∧ Ris D.2.2.place.toList ∧ (w.params.followText "set-order" = true ∨ D.2.2.led = true)
theorem SetT.at (R : SetT P w h a l) (k : ∀ o, h.get? a = some o → h'.get? a = some o) : SetT P w h' a l := by
  obtain ⟨D, h1, r⟩ := R
  exact ⟨D, k _ h1, r⟩
theorem tail_ris {ep : Nat} {es1 : Array (Int × Value)} {t2 : SetTable} {b : Bool} (r : Ris t2.place.toList) : Ris (tailTx ep es1 t2 b).2.2.place.toList := by
  unfold tailTx
  split
  · exact relayAll_ris _ _ _
  · exact r
theorem tail_led {ep : Nat} {es1 : Array (Int × Value)} {t2 : SetTable} {b : Bool} : (tailTx ep es1 t2 b).2.2.led = t2.led := by
  unfold tailTx
  split
  · exact relayAll_led _ _ _
  · rfl
theorem add_ris {D : SD} {x : Int} {v : Value} (r : Ris D.2.2.place.toList) : Ris (addTx x v D).2.2.place.toList := by
  unfold addTx
  refine tail_ris ?_
  have h1 := layNew_ris D.2.2 D.1 x v r
  split
  · exact h1
  · exact h1
theorem add_led {D : SD} {x : Int} {v : Value} : (addTx x v D).2.2.led = D.2.2.led := by
  unfold addTx
  refine tail_led.trans ?_
  have h1 := layNew_led D.2.2 D.1 x v
  split
  · exact h1
  · exact h1
def insT (l : List Str) (k : Str) : List Str := if k ∈ l then l else k :: l
theorem insT_len {l : List Str} {k : Str} : (insT l k).length ≤ l.length + 1 := by
  unfold insT
  split
  · omega
  · rw [List.length_cons]; exact Nat.le_refl _
end
section
variable {P : Program} {w : World} {A : Around} {E : Value → Shared → Prop} {s : Shared} {a : Addr} {l : List Str}
theorem setT_add {k : Str} {u : Tok} {Q : Bool → Shared → Prop} (R : SetT P w s.heap a l) (hb : l.length + 1 < scanBound)
    (hQ : ∀ b h', Heap.SameBut a s.heap h' → SetT P w h' a (insT l k) → Q b { s with heap := h' }) : wpAny (model P w) A (setAddHashed a (.str k u) (hashStr w k)) Q E s := by
  obtain ⟨D, ho, F, nd, r, hl⟩ := R
  by_cases hk : k ∈ l
  · obtain ⟨es, ep, t⟩ := D
    have hd : (sObj "set" (es, ep, t)).data = .set es ep t := rfl
    have hf : t.fits es.size = true := F.fit
    have hel : ElemsOf (strKind P w) es.toList := F.el
    have hsz : es.size = l.length := F.sz
    have hb0 : es.size < scanBound := by omega
    have hkey : (strKind P w).is k (.str k u) = true := is_str k u
    unfold setAddHashed setAddHashedIn
    refine wpAny_holding (wpAny_bind (wpAny_setState_of ho hd hf ?_))
    dsimp only
    rw [byScan_of rfl hb0 hel]
    simp only [↓reduceIte]
    unfold setAddByScan
    refine wpAny_bind ?_
    refine wpAny_bind (wpAny_rule ?_)
    refine wpAny_bind (wpAny_setScan_of (knd := strKind P w) (k := k) hkey ho hd hf hel ?_)
    cases hfi : List.findIdx? (fun e => (strKind P w).is k e.2) es.toList with
    | some j =>
      dsimp only
      refine wpAny_pure (wpAny_pure (hQ _ s.heap (Heap.SameBut.refl a s.heap) ?_))
      unfold insT
      rw [if_pos hk]
      exact ⟨(es, ep, t), ho, F, nd, r, hl⟩
    | none =>
      obtain ⟨e, he, z⟩ := (F.mem k).mp hk
      have := List.findIdx?_eq_none_iff.mp hfi e he
      rw [z] at this
      cases this
  · refine add_x ho F hk hb (hQ _ _ (Heap.SameBut.update _ a _) ?_)
    unfold insT
    rw [if_neg hk]
    refine ⟨_, get_upd _ ho rfl, add_ok u F, List.nodup_cons.mpr ⟨hk, nd⟩, add_ris r, ?_⟩
    rw [add_led]
    exact hl
end
section
variable {pg : Program} {wd : World} {A : Around} {E : Value → Shared → Prop} {s : Shared}
end
section
variable {pg : Program} {wd : World} {A : Around} {R : Result → Shared → Prop} {I : Addr} {fp wr : List Addr} {G : Array GenState → Array GenState → Prop} {n : Nat} {P : Nat → Value → Prop} {St : Nat → Shared → Prop}
def gotL (val : Nat → Str) : Nat → List Str
  | 0 => []
  | i + 1 => insT (gotL val i) (val i)
theorem gotL_len (val : Nat → Str) : ∀ i, (gotL val i).length ≤ i
  | 0 => Nat.le_refl _
  | i + 1 => Nat.le_trans insT_len (Nat.succ_le_succ (gotL_len val i))
/-- what has come of the first i -/
abbrev Got (P : Program) (w : World) (h : Heap) (a : Addr) (val : Nat → Str) (i : Nat) : Prop := SetT P w h a (gotL val i)
theorem loop (W : WalksS pg wd A.in1 I fp wr G n P St) (a : Addr) (out : a ∉ fp) (val : Nat → Str) (isI : ∀ i v, P i v → ∃ t, v = .str (val i) t) (room : n + 1 < scanBound) :
    ∀ (m i : Nat) (s : Shared), n - i = m → i ≤ n → St i s → Got pg wd s.heap a val i → (∀ t, Moved (a :: wr) G s t → Got pg wd t.heap a val n → R (.ok (.ret .none)) t) → codeAny (model pg wd) A (.builtin "set.update.loop" ⟨[.ref a, .ref I], []⟩) R s := by
  have nw : a ∉ wr := fun h => out (W.sub _ h)
  have up : ∀ b ∈ wr, b ∈ a :: wr := fun b hb => List.mem_cons_of_mem _ hb
  intro m
  induction m with
  | zero =>
    intro i s e1 e2 st got fin
    obtain rfl : i = n := by omega
    refine codeAny_builtin PyProof.Rows.F.entry_set_update_loop ?_
    rw [Around.under_plainId PyProof.Rows.F.plain_set_update_loop _]
    show wpAny _ A.in1 (pyNext (.ref I) >>= _) _ _ s
    refine wpAny_bind (W.done s _ _ st fun t mv => ?_)
    show wpAny _ A.in1 (ret Value.none) _ _ t
    exact wpAny_pure (fin t (mv.mono up) (SetT.at got fun o e => mv.heap a o nw e))
  | succ m ih =>
    intro i s e1 e2 st got fin
    have lt : i < n := by omega
    refine codeAny_builtin PyProof.Rows.F.entry_set_update_loop ?_
    rw [Around.under_plainId PyProof.Rows.F.plain_set_update_loop _]
    show wpAny _ A.in1 (pyNext (.ref I) >>= _) _ _ s
    refine wpAny_bind (W.item i s _ _ lt st fun v t hP st2 mv => ?_)
    obtain ⟨tk, rfl⟩ := isI i v hP
    have got2 : Got pg wd t.heap a val i := SetT.at got fun o e => mv.heap a o nw e
    show wpAny _ A.in1 (holding [Value.str (val i) tk] (setAdd a (.str (val i) tk)) >>= _) _ _ t
    refine wpAny_bind (wpAny_holding ?_)
    unfold setAdd
    refine wpAny_holding ?_
    refine wpAny_bind ((strKind pg wd).pyHash (k := val i) (is_str _ _) ?_)
    have few : (gotL val i).length + 1 < scanBound := by have := gotL_len val i; omega
    refine setT_add (P := pg) (s := { t with toks := t.toks + 1 }) got2 few fun b g sb r => ?_
    refine wpAny_pure ⟨plainId_quiet PyProof.Rows.F.plain_set_update_loop _, ih (i + 1) _ (by omega) lt (W.frame _ t _ _ st2 (Nat.le_succ _) fun b hb o e => ?_) r fun t2 mv2 got4 => ?_⟩
    · rw [sb.2 b (fun z : b = a => out (z ▸ hb))]; exact e
    · refine fin t2 (Moved.trans W.gtrans ((mv.mono up).then_heap (Nat.le_succ _) fun b o hb e => ?_) mv2) got4
      rw [sb.2 b (fun z : b = a => hb (z ▸ List.mem_cons_self))]; exact e
end
section
variable {pg : Program} {wd : World} {A : Around} {E : Value → Shared → Prop} {s : Shared}
end
end SetS

set_option maxHeartbeats 4000000
/-! set([texts]) with its members, sorted; the layer's rule for texts of one sign -/
namespace SetS
open PySem PySem.Spec PySem.Calls PyProof.Rows L2 PySem.Froz
section
variable {X : Cx}
end
section
variable {P : Program} {w : World} {A : Around} {E : Value → Shared → Prop} {s : Shared} {a : Addr} {l : List Str}
end
section
variable {X : Cx}
end
end SetS
namespace Fu
open PySem PySem.Spec PySem.Calls PyProof.Rows L2 SetS
section
variable [TabsC] {X : Cx} {pos p p2 pos2 : Pos} {e : Expr} {gs : M (List D)}
end
end Fu

set_option maxHeartbeats 4000000
/-! dicts whose keys are tuples of ints: an own one, written; told as data; read -/
namespace Fu
open PySem PySem.Spec PyProof.Rows L2
variable [TabsC]
def kk (ks : List Int) : List Key := ks.map Sum.inl
section
variable {K : PySem.W.Frag} {A : List Addr} {F : Hp}
end
/-! ### data read -/
section
variable {K : PySem.W.Frag} {F : Hp}
end
section
variable {X : Cx} {pos ap cp : Pos} {o e : Expr} {gd gk : M D} {n : Nat}
end
/-! ### an own one, written -/
section
variable {X : Cx} {P : Hp → Prop} {pos pd p p2 py : Pos} {y x : Str} {b : Expr} {gk : M D} {tgt : List Nat} {n : Nat}
end
/-! ### dict(pairs), held as data: what it holds is not told, but for an empty one -/
section
variable {X : Cx} {pos p : Pos} {e : Expr} {gs : M (List D)}
end
end Fu

set_option maxHeartbeats 4000000
/-! a stretch of an own list stored: `name[a:b] = [..]` -/
namespace Fu
open PySem PySem.Spec PyProof.Rows L2
variable [TabsC]
section
variable {X : Cx} {pos p2 py : Pos} {y : Str} {lo hi : Option Expr} {gl gh : M (Option Int)} {tgt : List Nat}
end
/-! ### a test that is a choice of tests -/
section
variable {X : Cx} {pos : Pos} {c a b : Expr} {g ga gb : M Bool} {tc ta tb : TT}
end
end Fu

set_option maxHeartbeats 4000000
/-! tuples of new lists: made, told, held, added to, parted -/
namespace Fu
open PySem PySem.Spec PyProof.Rows L2
variable [TabsC]
def RdR (K : PySem.W.Frag) (t : TE) (g : Sx → Option (R × Sx)) : Prop := ∀ A F H S σ r S' (Q : VK), Ok K A F H S σ → g S = some (r, S') → (∀ A' F' H' v, A <+: A' → SameT F F' → Ok K A' F' H' S' σ → Rr K A' F' v r → Q v H') → t σ H Q
/-- an expression that gives what holds new lists -/
structure GR (X : Cx) (e : Expr) (g : Sx → Option (R × Sx)) : Prop where
  ex : ∃ t, PE X e t ∧ RdR X.K t g
def rNew (g : M D) : Sx → Option (R × Sx) := fun S => (g S).bind fun p => match p.1 with
  | .list ds => some (.own p.2.os.length, ⟨p.2.sl, p.2.os ++ [some (.lst ds)]⟩)
  | _ => none
section
variable {X : Cx} {P : Hp → Prop} {pos p p2 py : Pos} {x y z : Str} {a b e : Expr} {g ge : M D} {ga gb gr : Sx → Option (R × Sx)} {n : Nat}
theorem r_new (h : GN X e g) : GR X e (rNew g) := by
  obtain ⟨t, pe, re⟩ := h.ex
  refine ⟨t, pe, fun A F H S σ r S' Q k h post => ?_⟩
  obtain ⟨⟨d, S1⟩, h1, h⟩ := bind_inv h
  cases d <;> simp only at h <;> try cases h
  rename_i ds
  refine re A F H S σ _ S1 Q k h1 fun A1 F1 G p vs ds' p1 s1 k1 hp ed rv hz => ?_
  cases ed
  have k2 := k1.cellNew (o := .lst vs) (c := .lst ds) hp trivial ⟨vs, upd_same, rv, hz⟩
  exact post _ F1 _ _ (p1.trans (List.prefix_append _ _)) s1 k2 (.own (by rw [k1.alen]; simp))
/-! #### statements -/
def qSetR (i : Nat) (g : Sx → Option (R × Sx)) : Sx → Option Out := fun S => (g S).bind fun p => some (.nx ⟨p.2.sl.set i (some p.1), p.2.os⟩)
theorem s_setR {pos' : Pos} (i : Nat) (hN : X.N.Nodup) (he : GR X e gr) (hx : Loc X.env.scope x := by first | exact Or.inl rfl | exact Or.inr rfl) (hi : X.N[i]? = some x := by rfl) (hs : swapsWith e (some (.Name x pos')) pos.line X.env = pure false := by rfl)
    (hf : X.fn x = true ∨ X.env.scope.names.lookup x = some .local := by first | exact .inl rfl | exact .inr rfl | assumption) : GS X P (.Assign [.Name x pos'] e pos) (qSetR i gr) := by
  obtain ⟨t, pe, re⟩ := he.ex
  refine ⟨_, ps_set hN hi hx pe hs hf, fun B A0 A F H S σ o E hP s p k h post => ?_⟩
  obtain ⟨⟨r, S1⟩, e1, h⟩ := bind_inv h
  cases h
  exact re A F H S σ r S1 _ k e1 fun A1 F1 H1 v p1 s1 k1 q => post A1 F1 H1 _ (s.trans s1) (p.trans p1) (k1.setR q)
end
end Fu

set_option maxHeartbeats 4000000
/-! list(zip(xs, ys)): the pairs gathered one by one -/
namespace ZipL
open PySem PySem.Calls PyProof.Rows L2
/-- the addresses as hold the pairs, in order; they lie above lo and rise -/
structure Prs (xs ys : Array Value) (lo : Addr) (g : Heap) (as : List Addr) : Prop where
  rise : as.Pairwise (· < ·)
  above : ∀ a ∈ as, lo < a
  pairs : ∀ (j : Nat) (a : Addr), as[j]? = some a → ∃ x y, xs[j]? = some x ∧ ys[j]? = some y ∧ IsPair g a x y
theorem Prs.there {xs ys : Array Value} {lo : Addr} {g : Heap} {as : List Addr} (p : Prs xs ys lo g as) {a : Addr} (ha : a ∈ as) : a < g.objs.size := by
  obtain ⟨j, hj⟩ := List.mem_iff_getElem?.mp ha
  obtain ⟨_, _, _, _, e⟩ := p.pairs j a hj
  exact Heap.lt_size e
/-- a zip that stands at item i, S the list being made -/
def ZSt (g : Heap) (z TI TO i1 i2 l1 l2 S : Addr) (xs ys : Array Value) (i : Nat) : Prop :=
  IsPair g TI (.ref i1) (.ref i2) ∧ g.IsListIter i1 l1 i ∧ g.IsListIter i2 l2 i ∧ g.IsList l1 xs ∧ g.IsList l2 ys ∧
    ((IsZip g z TI TO .none ∧ ∃ a b, IsPair g TO a b) ∨ ∃ T f oT, IsZipHeld g z TI TO T f ∧ g.get? T = some oT ∧ T ≠ z ∧ T ≠ i1 ∧ T ≠ i2 ∧ T ≠ S)
section
variable {pg : Program} {wd : World} {A : Around} {E : Value → Shared → Prop} {s : Shared} {z TI TO i1 i2 l1 l2 S : Addr} {xs ys : Array Value}
theorem zst_keep {g g' : Heap} {i : Nat} (h : ZSt g z TI TO i1 i2 l1 l2 S xs ys i) (nS : ∀ b ∈ [z, TI, TO, i1, i2, l1, l2], b ≠ S) (up : ∀ b o, b ≠ S → g.get? b = some o → g'.get? b = some o) : ZSt g' z TI TO i1 i2 l1 l2 S xs ys i := by
  obtain ⟨hTI, h1, h2, hl1, hl2, hz⟩ := h
  refine ⟨up _ _ (nS _ (by simp)) hTI, h1.at fun o e => up _ o (nS _ (by simp)) e, h2.at fun o e => up _ o (nS _ (by simp)) e, hl1.at fun o e => up _ o (nS _ (by simp)) e, hl2.at fun o e => up _ o (nS _ (by simp)) e, ?_⟩
  rcases hz with ⟨hz, a, b, hTO⟩ | ⟨T, f, oT, hz, hT, r1, r2, r3, r4⟩
  · exact .inl ⟨up _ _ (nS _ (by simp)) hz, a, b, up _ _ (nS _ (by simp)) hTO⟩
  · exact .inr ⟨T, f, oT, up _ _ (nS _ (by simp)) hz, up _ _ r4 hT, r1, r2, r3, r4⟩
theorem one {i : Nat} {x y : Value} {Q : Option Value → Shared → Prop} (D : ZipApart z TI TO i1 i2 l1 l2) (st : ZSt s.heap z TI TO i1 i2 l1 l2 S xs ys i) (hS : S < s.heap.objs.size) (ex : xs[i]? = some x) (ey : ys[i]? = some y)
    (hQ : ∀ g', ZSt g' z TI TO i1 i2 l1 l2 S xs ys (i + 1) → IsPair g' s.heap.objs.size x y → (∀ b o, b ≠ z → b ≠ TO → b ≠ i1 → b ≠ i2 → s.heap.get? b = some o → g'.get? b = some o) → Q (some (.ref s.heap.objs.size)) { s with heap := g' }) :
    wpAny (model pg wd) A (pyNext (.ref z)) Q E s := by
  obtain ⟨hTI, h1, h2, hl1, hl2, hz⟩ := st
  have lt : ∀ {c o}, s.heap.get? c = some o → s.heap.objs.size ≠ c := fun e => Nat.ne_of_gt (Heap.lt_size e)
  have n1 : s.heap.objs.size ≠ i1 := let ⟨_, e, _⟩ := h1; lt e
  have n2 : s.heap.objs.size ≠ i2 := let ⟨_, e, _⟩ := h2; lt e
  rcases hz with ⟨hz, a, b, hTO⟩ | ⟨T, f, oT, hz, hT, r1, r2, r3, r4⟩
  · refine wpAny_pyNext_zip_item D hz hTI hTO h1 h2 hl1 hl2 ex ey fun g' a1 a2 a3 a4 a5 a6 hk => ?_
    refine hQ g' ⟨hk _ _ D.TIz D.TITO D.TIi1 D.TIi2 hTI, a3, a4, hl1.at fun o e => hk _ o D.l1z D.l1TO D.l1i1 D.l1i2 e, hl2.at fun o e => hk _ o D.l2z D.l2TO D.l2i1 D.l2i2 e, ?_⟩ a5 hk
    exact .inr ⟨s.heap.objs.size, false, _, a1, a5, lt hz, n1, n2, Nat.ne_of_gt hS⟩
  · refine wpAny_pyNext_zip_item_held D hz hT hTI h1 h2 hl1 hl2 ex ey fun g' a1 a3 a4 a5 a6 hk => ?_
    refine hQ g' ⟨hk _ _ D.TIz D.TIi1 D.TIi2 hTI, a3, a4, hl1.at fun o e => hk _ o D.l1z D.l1i1 D.l1i2 e, hl2.at fun o e => hk _ o D.l2z D.l2i1 D.l2i2 e, ?_⟩ a5 fun b o c1 _ c3 c4 e => hk b o c1 c3 c4 e
    exact .inr ⟨T, true, oT, a1, hk _ _ r1 r2 r3 hT, r1, r2, r3, r4⟩
theorem last {i : Nat} {Q : Option Value → Shared → Prop} (hh : A.handled = none) (D : ZipApart z TI TO i1 i2 l1 l2) (st : ZSt s.heap z TI TO i1 i2 l1 l2 S xs ys i) (hend : xs[i]? = none ∨ ys[i]? = none)
    (hQ : ∀ g', (∀ b o, b ≠ z → b ≠ TO → b ≠ i1 → b ≠ i2 → s.heap.get? b = some o → g'.get? b = some o) → Q none { s with heap := g' }) : wpAny (model pg wd) A (pyNext (.ref z)) Q E s := by
  obtain ⟨hTI, h1, h2, hl1, hl2, hz⟩ := st
  rcases hz with ⟨hz, a, b, hTO⟩ | ⟨T, f, oT, hz, hT, r1, r2, r3, r4⟩
  · exact wpAny_pyNext_zip_end hh D hz hTI hTO h1 h2 hl1 hl2 hend hQ
  · exact wpAny_pyNext_zip_end_held hh D hz hT hTI h1 h2 hl1 hl2 hend fun g' hk => hQ g' fun b o c1 _ c3 c4 e => hk b o c1 c3 c4 e
end
section
variable {pg : Program} {wd : World} {A : Around} {s : Shared} {R : Result → Shared → Prop} {z TI TO i1 i2 l1 l2 S : Addr} {xs ys : Array Value}
theorem loop (hh : A.handled = none) (D : ZipApart z TI TO i1 i2 l1 l2) (top : ∀ b ∈ [z, TI, TO, i1, i2, l1, l2], b < S) (hn : min xs.size ys.size ≤ sizeLine) (res : Value) {g₁ : Heap}
    (hR : ∀ g' tk acc c as, (∀ b o, b ≠ S → b ≠ z → b ≠ TO → b ≠ i1 → b ≠ i2 → g₁.get? b = some o → g'.get? b = some o) → g'.get? S = some { cls := .type "list", dict := none, data := .seq acc c, slots := #[] } → as.length = min xs.size ys.size → Prs xs ys S g' as →
      acc.toList = as.map Value.ref → R (.ok (.ret res)) { s with heap := g', toks := tk }) :
    ∀ (k i : Nat) (g : Heap) (tk c : Nat) (acc : Array Value) (as : List Addr), min xs.size ys.size - i = k → i ≤ min xs.size ys.size → ZSt g z TI TO i1 i2 l1 l2 S xs ys i → (∀ b o, b ≠ S → b ≠ z → b ≠ TO → b ≠ i1 → b ≠ i2 → g₁.get? b = some o → g.get? b = some o) →
      g.get? S = some { cls := .type "list", dict := none, data := .seq acc c, slots := #[] } → acc.toList = as.map Value.ref → as.length = i → Prs xs ys S g as →
      codeAny (model pg wd) A (.builtin "list.extend.loop" ⟨[.ref S, .ref z, res], []⟩) R { s with heap := g, toks := tk } := by
  have nS : ∀ b ∈ [z, TI, TO, i1, i2, l1, l2], b ≠ S := fun b hb => Nat.ne_of_lt (top b hb)
  have low : ∀ {b : Addr}, S < b → b ≠ S ∧ b ≠ z ∧ b ≠ TO ∧ b ≠ i1 ∧ b ≠ i2 := fun {b} hb => ⟨Nat.ne_of_gt hb, Nat.ne_of_gt (Nat.lt_trans (top z (by simp)) hb), Nat.ne_of_gt (Nat.lt_trans (top TO (by simp)) hb), Nat.ne_of_gt (Nat.lt_trans (top i1 (by simp)) hb), Nat.ne_of_gt (Nat.lt_trans (top i2 (by simp)) hb)⟩
  have offS : S ≠ z ∧ S ≠ TO ∧ S ≠ i1 ∧ S ≠ i2 := ⟨(nS z (by simp)).symm, (nS TO (by simp)).symm, (nS i1 (by simp)).symm, (nS i2 (by simp)).symm⟩
  intro k
  induction k with
  | zero =>
    intro i g tk c acc as hk hi hst hkeep hS hacc hal hP
    have hin : i = min xs.size ys.size := by omega
    refine codeAny_builtin PySem.F.entry_extend_loop ?_
    rw [Around.under_plainId PySem.F.plain_extend_loop _]
    show wpAny _ A.in1 (pyNext (.ref z) >>= _) _ _ _
    have hend : xs[i]? = none ∨ ys[i]? = none := by
      rcases Nat.le_total xs.size ys.size with h | h
      · exact .inl (Array.getElem?_eq_none (by rw [hin, Nat.min_eq_left h]; exact Nat.le_refl _))
      · exact .inr (Array.getElem?_eq_none (by rw [hin, Nat.min_eq_right h]; exact Nat.le_refl _))
    refine wpAny_bind (last (s := { s with heap := g, toks := tk }) (A := A.in1) hh D hst hend fun g' he => ?_)
    refine wpAny_pure (hR g' tk acc c as (fun b o c0 c1 c2 c3 c4 e => he b o c1 c2 c3 c4 (hkeep b o c0 c1 c2 c3 c4 e)) (he S _ offS.1 offS.2.1 offS.2.2.1 offS.2.2.2 hS) (by omega) ⟨hP.rise, hP.above, fun j a hj => ?_⟩ hacc)
    obtain ⟨x, y, e1, e2, e3⟩ := hP.pairs j a hj
    obtain ⟨_, c1, c2, c3, c4⟩ := low (hP.above a (List.mem_of_getElem? hj))
    exact ⟨x, y, e1, e2, he a _ c1 c2 c3 c4 e3⟩
  | succ k ih =>
    intro i g tk c acc as hk hi hst hkeep hS hacc hal hP
    have hix : i < xs.size := by omega
    have hiy : i < ys.size := by omega
    have hsz : acc.size = i := by rw [← Array.length_toList, hacc, List.length_map, hal]
    have hSl : S < g.objs.size := Heap.lt_size hS
    refine codeAny_builtin PySem.F.entry_extend_loop ?_
    rw [Around.under_plainId PySem.F.plain_extend_loop _]
    show wpAny _ A.in1 (pyNext (.ref z) >>= _) _ _ _
    refine wpAny_bind (one (s := { s with heap := g, toks := tk }) D hst hSl (Array.getElem?_eq_getElem hix) (Array.getElem?_eq_getElem hiy) fun g' hst' ht hkp => ?_)
    dsimp only at ht hkp ⊢
    have hS' := hkp S _ offS.1 offS.2.1 offS.2.2.1 offS.2.2.2 hS
    have up : ∀ b o, b ≠ S → g'.get? b = some o → (g'.update S (Obj.mapSeq (·.push (Value.ref g.objs.size)))).get? b = some o := fun b o hb e => (Heap.get?_update_other _ _ (Ne.symm hb)).trans e
    show wpAny _ A.in1 (updateSeq S (·.push (Value.ref g.objs.size)) >>= _) _ _ _
    refine wpAny_bind ?_
    refine wpAny_updateSeq hS' rfl (wpAny_pure ⟨plainId_quiet PySem.F.plain_extend_loop _, ih (i + 1) _ tk _ (acc.push (Value.ref g.objs.size)) (as ++ [g.objs.size]) (by omega) (by omega) (zst_keep hst' nS up)
      (fun b o c0 c1 c2 c3 c4 e => up b o c0 (hkp b o c1 c2 c3 c4 (hkeep b o c0 c1 c2 c3 c4 e))) (Heap.get?_update_self _ hS' rfl) (by rw [Array.toList_push, hacc, List.map_append]; rfl) (by rw [List.length_append, hal]; rfl) ⟨?_, ?_, ?_⟩⟩) (by rw [hsz]; omega) (by show (acc.push (Value.ref g.objs.size)).size ≤ sizeLine + 1; rw [Array.size_push, hsz]; omega)
    · refine List.pairwise_append.mpr ⟨hP.rise, List.pairwise_singleton _ _, fun a ha b hb => ?_⟩
      rw [List.mem_singleton.mp hb]
      exact hP.there ha
    · intro a ha
      rcases List.mem_append.mp ha with ha | ha
      · exact hP.above a ha
      · rw [List.mem_singleton.mp ha]; exact hSl
    · intro j b hj
      rcases Nat.lt_trichotomy j as.length with h1 | h1 | h1
      · rw [List.getElem?_append_left h1] at hj
        obtain ⟨x, y, e1, e2, e3⟩ := hP.pairs j b hj
        obtain ⟨c0, c1, c2, c3, c4⟩ := low (hP.above b (List.mem_of_getElem? hj))
        exact ⟨x, y, e1, e2, up b _ c0 (hkp b _ c1 c2 c3 c4 e3)⟩
      · subst h1
        have hb : g.objs.size = b := by simpa using hj
        subst hb
        exact ⟨_, _, by rw [hal]; exact Array.getElem?_eq_getElem hix, by rw [hal]; exact Array.getElem?_eq_getElem hiy, up _ _ (Nat.ne_of_gt hSl) ht⟩
      · have hnone : (as ++ [g.objs.size])[j]? = none := List.getElem?_eq_none (by rw [List.length_append, List.length_singleton]; omega)
        rw [hnone] at hj; cases hj
end
theorem no_len : typeLookup (.type "zip") "__len__" = pure none := am_miss_of_fast (by decide +kernel)
theorem no_hint : typeLookup (.type "zip") "__length_hint__" = pure none := am_miss_of_fast (by decide +kernel)
section
variable {pg : Program} {wd : World} {A : Around} {E : Value → Shared → Prop} {s : Shared} {z TI TO i1 i2 l1 l2 S : Addr} {xs ys : Array Value}
theorem extend {R : Result → Shared → Prop} (hh : A.handled = none) (D : ZipApart z TI TO i1 i2 l1 l2) (top : ∀ b ∈ [z, TI, TO, i1, i2, l1, l2], b < S) (hn : min xs.size ys.size ≤ sizeLine) (hz : IsZip s.heap z TI TO .none) (st : ZSt s.heap z TI TO i1 i2 l1 l2 S xs ys 0) (res : Value) (c₀ : Nat)
    (hS : s.heap.get? S = some { cls := .type "list", data := .seq #[] c₀ })
    (hR : ∀ g' tk acc c as, (∀ b o, b ≠ S → b ≠ z → b ≠ TO → b ≠ i1 → b ≠ i2 → s.heap.get? b = some o → g'.get? b = some o) → g'.get? S = some { cls := .type "list", dict := none, data := .seq acc c, slots := #[] } → as.length = min xs.size ys.size → Prs xs ys S g' as →
      acc.toList = as.map Value.ref → R (.ok (.ret res)) { s with heap := g', toks := tk }) :
    wpAny (model pg wd) A.in1 (Builtin.List.listExtendWith (.ref S) (.ref z) res)
      (fun fin s' => match fin with | .done f => R (.ok f) s' | .again c' => c'.quiet = true ∧ codeAny (model pg wd) A c' R s') (fun e s' => R (.error e) s') s := by
  have nS : ∀ b ∈ [z, TI, TO, i1, i2, l1, l2], b ≠ S := fun b hb => Nat.ne_of_lt (top b hb)
  have key : ∀ (g : Heap) (c₁ tk : Nat), (∀ b o, b ≠ S → s.heap.get? b = some o → g.get? b = some o) → g.get? S = some { cls := .type "list", data := .seq #[] c₁ } →
      codeAny (model pg wd) A (.builtin "list.extend.loop" ⟨[.ref S, .ref z, res], []⟩) R { s with heap := g, toks := tk } := fun g c₁ tk hk hS₁ =>
    loop (s := s) (g₁ := s.heap) hh D top hn res hR (min xs.size ys.size) 0 g tk c₁ #[] [] (Nat.sub_zero _) (Nat.zero_le _) (zst_keep st nS hk) (fun b o c0 _ _ _ _ e => hk b o c0 e) hS₁ rfl rfl
      ⟨List.Pairwise.nil, (fun _ ha => nomatch ha), (fun j a hj => by simp at hj)⟩
  have hT : s.TypeIs (.ref z) "zip" := ⟨_, hz, rfl⟩
  unfold Builtin.List.listExtendWith
  refine wpAny_bind (wpAny_typeOf hT ?_)
  have t1 : Builtin.List.listSameRef (.ref S) (.ref z) = false := by
    have : S ≠ z := (nS z (by simp)).symm
    simp [Builtin.List.listSameRef, this]
  have t2 : (Value.type "zip" == Value.type "list") = false := by decide
  have t3 : (Value.type "zip" == Value.type "tuple") = false := by decide
  simp only [t1, t2, t3, Bool.or_false, Bool.false_eq_true, if_false]
  refine wpAny_bind (wpAny_pyIter_zip hz ?_)
  refine wpAny_bind (wpAny_holding ?_)
  unfold Builtin.List.listLengthHint
  refine wpAny_bind (wpAny_specialOf hT no_len ?_)
  show wpAny _ A.in1 (specialOf (Value.ref z) (Str.ofString "__length_hint__") >>= _) _ _ _
  refine wpAny_bind (wpAny_specialOf hT no_hint ?_)
  refine wpAny_pure ?_
  show wpAny _ A.in1 (rule "list.extend.makes-room" >>= fun _ => Builtin.List.listTouch (.ref S) >>= fun _ => again (.builtin "list.extend.loop" ⟨[.ref S, .ref z, res], []⟩)) _ _ _
  refine wpAny_bind (wpAny_rule ?_)
  refine wpAny_bind ?_
  show wpAny _ A.in1 (updateSeq S (·.push .none) >>= fun _ => updateSeq S (·.pop)) _ _ _
  refine wpAny_bind (wpAny_updateSeq hS rfl ?_)
  have hS₂ := Heap.get?_update_self (Obj.mapSeq (·.push Value.none)) hS rfl
  refine wpAny_updateSeq (hz := by seq_fits) hS₂ rfl ?_
  have hS₃ := Heap.get?_update_self (Obj.mapSeq (·.pop)) hS₂ rfl
  refine wpAny_pure ⟨plainId_quiet PySem.F.plain_extend_loop _, key _ _ _ (fun b o hb e => ?_) hS₃⟩
  exact (Heap.get?_update_other _ _ (Ne.symm hb)).trans ((Heap.get?_update_other _ _ (Ne.symm hb)).trans e)
/-- list(z), z a zip that has just been made over two lists -/
theorem call {Q : Value → Shared → Prop} (hh : A.handled = none) (D : ZipApart z TI TO i1 i2 l1 l2) (top : ∀ b ∈ [z, TI, TO, i1, i2, l1, l2], b < s.heap.objs.size) (hn : min xs.size ys.size ≤ sizeLine) (hz : IsZip s.heap z TI TO .none)
    (st : IsPair s.heap TI (.ref i1) (.ref i2) ∧ s.heap.IsListIter i1 l1 0 ∧ s.heap.IsListIter i2 l2 0 ∧ s.heap.IsList l1 xs ∧ s.heap.IsList l2 ys ∧ ∃ a b, IsPair s.heap TO a b)
    (hQ : ∀ g' tk acc c as, (∀ b o, b ≠ z → b ≠ TO → b ≠ i1 → b ≠ i2 → s.heap.get? b = some o → g'.get? b = some o) → g'.get? s.heap.objs.size = some { cls := .type "list", dict := none, data := .seq acc c, slots := #[] } → as.length = min xs.size ys.size → Prs xs ys s.heap.objs.size g' as →
      acc.toList = as.map Value.ref → Q (.ref s.heap.objs.size) { s with heap := g', toks := tk }) :
    wpAny (model pg wd) A (PySem.call (.type "list") [.ref z]) Q E s := by
  obtain ⟨hTI, h1, h2, hl1, hl2, a, b, hTO⟩ := st
  refine callType_codes (Q₁ := fun obj s₁ => obj = .ref s.heap.objs.size ∧ s₁ = { s with heap := s.heap.push { cls := .type "list", data := .seq #[] } }) PySem.F.called_list (PySem.F.typeCall_list_1 _) PySem.F.entry_list_init
    (code_list_new _ ⟨rfl, rfl⟩) fun obj s₁ q₁ => ?_
  obtain ⟨rfl, rfl⟩ := q₁
  have hS : (s.heap.push { cls := .type "list", data := .seq #[] }).get? s.heap.objs.size = some { cls := .type "list", data := .seq #[] } := Heap.get?_push_size _ rfl
  refine ⟨⟨_, hS, rfl⟩, PySem.F.args_list_init_2 _ _, ?_⟩
  show wpAny _ _ (do let old ← Builtin.List.listItems (.ref s.heap.objs.size); Builtin.List.listUpdate (.ref s.heap.objs.size) (fun _ => #[]); letGo old.toList.reverse; Builtin.List.listExtendWith (.ref s.heap.objs.size) (.ref z) .none) _ _ _
  refine wpAny_bind ?_
  unfold Builtin.List.listItems
  refine wpAny_bind (wpAny_seqItems hS rfl (wpAny_pure ?_))
  show wpAny _ _ (updateSeq s.heap.objs.size (fun _ => #[]) >>= fun _ => letGo (#[] : Array Value).toList.reverse >>= fun _ => Builtin.List.listExtendWith (.ref s.heap.objs.size) (.ref z) .none) _ _ _
  refine wpAny_bind (wpAny_updateSeq hS rfl ?_)
  have hS₂ := Heap.get?_update_self (Obj.mapSeq (fun _ => (#[] : Array Value))) hS rfl
  have oth : ∀ b o, b ≠ s.heap.objs.size → s.heap.get? b = some o → ((s.heap.push { cls := .type "list", data := .seq #[] }).update s.heap.objs.size (Obj.mapSeq (fun _ => (#[] : Array Value)))).get? b = some o :=
    fun b o hb e => (Heap.get?_update_other _ _ (Ne.symm hb)).trans (Heap.get?_push_of_some _ e)
  refine wpAny_bind (wpAny_letGo ?_)
  have nS : ∀ b ∈ [z, TI, TO, i1, i2, l1, l2], b ≠ s.heap.objs.size := fun b hb => Nat.ne_of_lt (top b hb)
  have st0 : ZSt s.heap z TI TO i1 i2 l1 l2 s.heap.objs.size xs ys 0 := ⟨hTI, h1, h2, hl1, hl2, .inl ⟨hz, a, b, hTO⟩⟩
  refine extend (A := A.in1) (s := { s with heap := (s.heap.push { cls := .type "list", data := .seq #[] }).update s.heap.objs.size (Obj.mapSeq (fun _ => (#[] : Array Value))) }) hh D top hn (oth _ _ (nS z (by simp)) hz) (zst_keep st0 nS oth) .none _ hS₂ fun g' tk acc c as hk hS' hl hP hacc => ?_
  exact ⟨rfl, hQ g' tk acc c as (fun b o c1 c2 c3 c4 e => hk b o (Nat.ne_of_lt (Heap.lt_size e)) c1 c2 c3 c4 (oth b o (Nat.ne_of_lt (Heap.lt_size e)) e)) hS' hl hP hacc⟩
end
end ZipL
namespace Fu
open PySem PySem.Spec PyProof.Rows L2
variable [TabsC]
end Fu

set_option maxHeartbeats 4000000
/-! list(zip(xs, ys)) in the mirror; defs that give two new lists -/
namespace Fu
open PySem PySem.Spec PyProof.Rows L2
variable [TabsC]
section
variable {X : Cx} {pos p p2 p3 py : Pos} {x y : Str} {e e2 ek : Expr} {es : List Expr} {gs : M (List D)} {ge gk : M D} {k n : Nat} {ps : List Str}
/-! #### defs that give two new lists in a tuple -/
end
section
variable {P : Program} {w : World} {K : PySem.W.Frag} {mg : Str → Option Value} {base : Heap} {x qual : Str} {st : Stmt} {f : Addr} {fd : FuncData} {N ps : List Str} {k n : Nat} {g : Sx → Option Out}
end
end Fu

set_option maxHeartbeats 4000000
/-! defs that give two new lists: called; a list in a tuple added to -/
namespace Fu
open PySem PySem.Spec PyProof.Rows L2
variable [TabsC]
section
variable {P : Program} {w : World} {K : PySem.W.Frag} {mg : Str → Option Value} {base : Heap} {x : Str} {st : Stmt} {N ps : List Str} {k n : Nat} {g : Sx → Option Out}
end
section
variable {X : Cx} {pos p p2 p3 py apos cpos : Pos} {x y : Str} {e e2 ek : Expr} {es : List Expr} {gs : M (List D)} {ge gk : M D} {k n : Nat} {ps : List Str}
end
end Fu

set_option maxHeartbeats 4000000
/-! a def that gives two new lists, its answer held as data -/
namespace Fu
open PySem PySem.Spec PyProof.Rows L2
variable [TabsC]
end Fu

set_option maxHeartbeats 4000000
/-! an own dict made empty, updated by {k: v for ..}, asked for a key -/
namespace Fu
open PySem PySem.Spec PyProof.Rows L2 RZ
variable [TabsC]
section
variable {X : Cx} {pins : List (Addr × Obj)} {σ : L2.St} {H : Hp} {s : Shared} {a b : Addr}
end
section
variable {X : Cx} {P : Hp → Prop} {pos pd p2 py apos cpos : Pos} {x y : Str} {e : Expr} {g : MD} {gk : M D} {n : Nat}
end
end Fu

set_option maxHeartbeats 4000000
/-! a def whose second argument is a list of one's own that it uses up; list(xs) of an own list -/
namespace Fu
open PySem PySem.Spec PyProof.Rows L2
variable [TabsC]
/-- an own cell is given up, its object written and known for good -/
theorem Ok.drop {K : PySem.W.Frag} {A : List Addr} {F H : Hp} {S : Sx} {σ : L2.St} (k : Ok K A F H S σ) {j : Nat} {a : Addr} {o : HO} {c : Cell} (hj : S.os[j]? = some (some c)) (ha : A[j]? = some a) (l : Loose o) :
    Ok K A (upd F a o) (upd H a o) { S with os := S.os.set j none } σ := by
  obtain ⟨a', e1, fa, _⟩ := k.cell j c hj
  rw [ha] at e1; cases e1
  have sm : SameT F (upd F a o) := same_upd fa
  refine ⟨⟨fun b u q => ?_, fun b u q n => ?_⟩, k.len, by simp [k.alen], k.nd, fun i r h => ?_, fun i d h => ?_, fun b h => ?_, sm.tab k.tab⟩
  · by_cases hb : b = a
    · subst hb; rw [upd_same] at q ⊢; exact q
    · rw [upd_ne hb] at q ⊢; exact k.sub.same b u q
  · by_cases hb : b = a
    · subst hb; rw [upd_same] at n; cases n
    · rw [upd_ne hb] at n q; exact k.sub.loose b u q n
  · obtain ⟨v, e1, q⟩ := k.rslot i r h
    exact ⟨v, e1, q.mono (List.prefix_refl _) sm _ _⟩
  · by_cases hi : j = i
    · subst hi
      have hlt := (List.getElem?_eq_some_iff.mp hj).1
      rw [List.getElem?_set_self hlt] at h
      cases h
    · rw [List.getElem?_set_ne hi] at h
      obtain ⟨b, e1, f, q⟩ := k.cell i d h
      have hb : b ≠ a := fun z => hi (idx_nodup k.nd ha (z ▸ e1))
      exact ⟨b, e1, by rw [upd_ne hb]; exact f, q.mono (List.prefix_refl _) sm fun u hu => by rw [upd_ne hb]; exact hu⟩
  · by_cases hb : b = a
    · exact ⟨o, by rw [hb, upd_same], l⟩
    · obtain ⟨u, hu, lu⟩ := k.trk b h
      exact ⟨u, by rw [upd_ne hb]; exact hu, lu⟩
section
variable {P : Program} {w : World} {K : PySem.W.Frag} {mg : Str → Option Value} {base : Heap} {x qual : Str} {st : Stmt} {f : Addr} {fd : FuncData} {N ps : List Str} {k n : Nat} {g : Sx → Option Out}
end
section
variable {X : Cx} {pos p py : Pos} {x y : Str} {e : Expr} {es : List Expr} {ge : M D} {gs : M (List D)} {k n : Nat} {ps : List Str}
end
end Fu

set_option maxHeartbeats 4000000
/-! a list of new lists: made by a comprehension, one of them added to, told; a def that writes a list just made -/
namespace Fu
open PySem PySem.Spec PyProof.Rows L2
variable [TabsC]
def gTurnsR (gg : D → Sx → Option Sx) (gt : M Bool) (ge : Sx → Option (R × Sx)) (vs : List Nat) : List D → Sx → Option (List R × Sx)
  | [], S => some ([], S)
  | d :: ds, S => (gg d ⟨wipeS S.sl vs, S.os⟩).bind fun S1 => (gt S1).bind fun p =>
    if p.1 = true then (ge p.2).bind fun q => (gTurnsR gg gt ge vs ds q.2).bind fun r => some (q.1 :: r.1, r.2)
    else gTurnsR gg gt ge vs ds p.2
def rLc (gi : M (List D)) (gg : D → Sx → Option Sx) (gt : M Bool) (ge : Sx → Option (R × Sx)) (vs : List Nat) : Sx → Option (R × Sx) := fun S => (gi S).bind fun p => (gTurnsR gg gt ge vs p.1 p.2).bind fun r => some (.own r.2.os.length, ⟨backS p.2.sl r.2.sl vs, r.2.os ++ [some (.lR r.1)]⟩)
section
variable {K : PySem.W.Frag}
theorem rd_lcR {wi : TI} {g : TG} {tt : TT} {te : TE} {gi : M (List D)} {gg : D → Sx → Option Sx} {gt : M Bool} {ge : Sx → Option (R × Sx)} {tgt vs : List Nat} (hi : RdI K wi gi) (hg : RdG K tgt g gg) (ht : RdT K tt gt) (he : RdR K te ge) (hv : ∀ i ∈ tgt, i ∈ vs) :
    RdR K (tLc wi (gFr g) (tFrT tt) (tFr te) vs) (rLc gi gg gt ge vs) := by
  intro A F H S σ d S' Q k e post
  obtain ⟨⟨ds, S1⟩, e1, e⟩ := bind_inv e
  obtain ⟨⟨rs, S2⟩, e2, e⟩ := bind_inv e
  cases e
  refine hi A F H S σ ds S1 _ k e1 fun A1 F1 H1 J p1 s1 k1 w hz => fun L hL => ?_
  refine ⟨fun i m H => m = ds.length - i ∧ i ≤ ds.length ∧ ∃ A F G S acc us rest, SameT F1 F ∧ A1 <+: A ∧ Ok K A F G ⟨wipeS S.sl vs, S.os⟩ (wipe σ vs) ∧ G L = none ∧ H = upd G L (.lst us) ∧ Rrs K A F us acc ∧ acc.length ≤ i ∧
    gTurnsR gg gt ge vs (ds.drop i) S = some (rest, S2) ∧ acc ++ rest = rs, ⟨ds.length, by simp, Nat.zero_le _, A1, F1, H1, S1, [], [], rs, SameT.refl _, List.prefix_refl _, k1.wipe rfl, hL, rfl, .nil, Nat.le_refl _, by simpa using e2, rfl⟩, ?_⟩
  rintro i m H ⟨rfl, hil, A2, F2, G2, S3, acc, us, rest, s2, p2, k2, hG, rfl, ru, hla, et, ea⟩
  have sFH : SameT F1 (upd G2 L (.lst us)) := (s2.trans k2.sub.same.t).trans (same_upd hG)
  by_cases hlt : i < ds.length
  · refine .inr ⟨w.go i _ sFH hlt, fun H' => i + 1 ≤ ds.length ∧ ∃ A F G S acc us rest, SameT F1 F ∧ A1 <+: A ∧ Ok K A F G ⟨wipeS S.sl vs, S.os⟩ (wipe σ vs) ∧ G L = none ∧ H' = upd G L (.lst us) ∧ Rrs K A F us acc ∧ acc.length ≤ i + 1 ∧
      gTurnsR gg gt ge vs (ds.drop (i + 1)) S = some (rest, S2) ∧ acc ++ rest = rs, fun H' h => ⟨ds.length - (i + 1), by omega, rfl, h⟩, fun x H' hy => ?_⟩
    rw [List.drop_eq_getElem_cons hlt] at et
    obtain ⟨S4, e4, et⟩ := bind_inv (show (gg ds[i] ⟨wipeS S3.sl vs, S3.os⟩).bind _ = _ from et)
    obtain ⟨⟨b, S5⟩, e5, et⟩ := bind_inv et
    -- the item
    have key : ∃ F3 G3, SameT F2 F3 ∧ Ok K A2 F3 G3 ⟨wipeS S3.sl vs, S3.os⟩ (wipe σ vs) ∧ G3 L = none ∧ H' = upd G3 L (.lst us) ∧ Rp K F3 x ds[i] := by
      rcases w.yld i ds[i] _ x H' sFH (List.getElem?_eq_getElem hlt) hy with ⟨rfl, r⟩ | ⟨T, ws, es, rfl, hT, rfl, ed, r, hz2⟩
      · exact ⟨F2, G2, SameT.refl _, k2, hG, rfl, r.mono s2 _ _⟩
      · have hTL : T ≠ L := fun z => by subst z; rw [upd_same] at hT; cases hT
        have gT : G2 T = none := by rwa [upd_ne hTL] at hT
        obtain ⟨s3, k3, r3⟩ := k2.newTup gT (Rps.mono s2 _ _ r) hz2
        refine ⟨_, _, s3, k3, by rw [upd_ne (Ne.symm hTL)]; exact hG, ?_, by rw [ed]; exact r3⟩
        funext c
        by_cases h1 : c = T
        · subst h1; rw [upd_same, upd_ne hTL, upd_same]
        · rw [upd_ne h1]
          by_cases h2 : c = L
          · subst h2; rw [upd_same, upd_same]
          · rw [upd_ne h2, upd_ne h2, upd_ne h1]
    obtain ⟨F3, G3, s3, k3, hG3, rfl, rx⟩ := key
    refine ⟨G3, sub_one hG3 trivial, hg A2 F3 G3 _ _ x ds[i] S4 _ k3 rx e4 fun A4 F4 G4 σ4 p4 s4 k4 w4 => ⟨fun c xs q => ?_, fun lost => ?_⟩⟩
    · exact k4.sub.keep (k4.sub.same c _ (by
        have := k3.sub.keep q (fun z => z)
        exact s4.old c _ this trivial)) (fun z => z) |> fun z => k4.sub.same c _ z
    · have hG4 : G4 L = none := lost L _ upd_same hG3
      rw [mix_one hG3 hG4]
      refine ⟨(w4 vs hv).trans (by
        have : ∀ ws : List Nat, wipe (wipe σ ws) ws = wipe σ ws := by
          intro ws
          apply List.ext_getElem?
          intro n
          by_cases hn : n ∈ ws
          · have h1 : ∀ {τ : L2.St} {n : Nat} {ws : List Nat}, n ∈ ws → (wipe τ ws)[n]? = if n < τ.length then some none else none := by
              intro τ n ws
              induction ws with
              | nil => intro h; cases h
              | cons v ws ih =>
                intro h
                unfold wipe
                by_cases hv : v = n
                · subst hv
                  by_cases hl : v < τ.length
                  · rw [List.getElem?_set_self (by rw [wipe_length]; exact hl), if_pos hl]
                  · rw [List.getElem?_eq_none (by rw [List.length_set, wipe_length]; omega), if_neg hl]
                · rw [List.getElem?_set_ne hv]
                  exact ih ((List.mem_cons.mp h).resolve_left fun z => hv z.symm)
            rw [h1 hn, h1 hn, wipe_length]
          · rw [wipe_outV hn]
        exact this vs), G4, sub_one hG4 trivial, ht A4 F4 G4 S4 σ4 b S5 _ k4 e5 fun A5 F5 G5 p5 s5 k5 => ⟨fun c xs q => ?_, fun lost => ?_⟩⟩
      · exact k5.sub.same c _ (s5.old c _ (k4.sub.keep q (fun z => z)) trivial)
      · have hG5 : G5 L = none := lost L _ upd_same hG4
        rw [mix_one hG4 hG5]
        have w5 : wipe σ4 vs = wipe σ vs := (w4 vs hv).trans (by
          have h1 : ∀ {τ : L2.St} {n : Nat} {ws : List Nat}, n ∈ ws → (wipe τ ws)[n]? = if n < τ.length then some none else none := by
            intro τ n ws
            induction ws with
            | nil => intro h; cases h
            | cons v ws ih =>
              intro h
              unfold wipe
              by_cases hv : v = n
              · subst hv
                by_cases hl : v < τ.length
                · rw [List.getElem?_set_self (by rw [wipe_length]; exact hl), if_pos hl]
                · rw [List.getElem?_eq_none (by rw [List.length_set, wipe_length]; omega), if_neg hl]
              · rw [List.getElem?_set_ne hv]
                exact ih ((List.mem_cons.mp h).resolve_left fun z => hv z.symm)
          apply List.ext_getElem?
          intro n
          by_cases hn : n ∈ vs
          · rw [h1 hn, h1 hn, wipe_length]
          · rw [wipe_outV hn])
        cases b with
        | false =>
          rw [if_neg Bool.false_ne_true] at et
          show if false = true then _ else _
          rw [if_neg Bool.false_ne_true]
          exact ⟨hlt, A5, F5, G5, S5, acc, us, rest, s2.trans (s3.trans (s4.trans s5)), p2.trans (p4.trans p5), k5.wipe w5, hG5, rfl, Rrs.mono (p4.trans p5) (s3.trans (s4.trans s5)) _ _ ru, Nat.le_succ_of_le hla, et, ea⟩
        | true =>
          rw [if_pos rfl] at et
          show if true = true then _ else _
          rw [if_pos rfl]
          obtain ⟨⟨y, S6⟩, e6, et⟩ := bind_inv et
          obtain ⟨⟨rest', S7⟩, e7, et⟩ := bind_inv et
          cases et
          refine ⟨G5, sub_one hG5 trivial, he A5 F5 G5 S5 σ4 y S6 _ k5 e6 fun A6 F6 G6 v p6 s6 k6 r6 => ⟨fun c xs q => ?_, fun lost => ?_⟩⟩
          · exact k6.sub.same c _ (s6.old c _ (k5.sub.keep q (fun z => z)) trivial)
          · have hG6 : G6 L = none := lost L _ upd_same hG5
            rw [mix_one hG5 hG6]
            have ru' : Rrs K A6 F6 us acc := Rrs.mono (p4.trans (p5.trans p6)) (s3.trans (s4.trans (s5.trans s6))) _ _ ru
            refine ⟨us, upd_same, ?_, hlt, A6, F6, G6, S6, acc ++ [y], us ++ [v], rest', s2.trans (s3.trans (s4.trans (s5.trans s6))), p2.trans (p4.trans (p5.trans p6)), k6.wipe w5, hG6, upd_upd, ru'.append (.cons r6 .nil), ?_, e7, ?_⟩
            · rw [ru'.length]
              omega
            · rw [List.length_append, List.length_singleton]
              omega
            · rw [← ea, List.append_assoc]; rfl
  · have ei : i = ds.length := by omega
    subst ei
    rw [List.drop_length] at et
    cases et
    refine .inl ⟨w.stop _ _ sFH (Nat.le_refl _), ?_⟩
    rw [List.append_nil] at ea
    subst ea
    have k3 := (k1.back k2 p2 s2).cellNew (o := .lst us) (c := .lR acc) hG trivial ⟨us, upd_same, Rrs.mono (List.prefix_append _ _) (SameT.refl F2) _ _ ru, Nat.le_trans hla hz⟩
    exact post _ F2 _ _ (p1.trans (p2.trans (List.prefix_append _ _))) (s1.trans s2) k3 (.own (by rw [k2.alen]; simp))
end
def trOf (K : PySem.W.Frag) (g : Sx → Option (R × Sx)) : TE := fun σ H Q => ∃ A F S r S', Ok K A F H S σ ∧ g S = some (r, S') ∧ ∀ A' F' H' v, A <+: A' → SameT F F' → Ok K A' F' H' S' σ → Rr K A' F' v r → Q v H'
theorem GR.pe {X : Cx} {e : Expr} {g : Sx → Option (R × Sx)} (h : GR X e g) : PE X e (trOf X.K g) := by
  obtain ⟨t, p, r⟩ := h.ex
  exact ⟨fun pins s σ H Q I ⟨A, F, S, d, S', k, e, post⟩ => p.run pins s σ H Q I (r A F H S σ d S' Q k e post)⟩
theorem rd_rof {K : PySem.W.Frag} {g : Sx → Option (R × Sx)} : RdR K (trOf K g) g := fun A F H S σ d S' Q k e post => ⟨A, F, S, d, S', k, e, post⟩
section
variable {X : Cx} {P : Hp → Prop} {pos spos py : Pos} {y : Str} {elt tg iter : Expr} {ifs : List Expr} {scope : Scope} {gi : M (List D)} {gg : D → Sx → Option Sx} {gt : M Bool} {gr : Sx → Option (R × Sx)} {tgt : List Nat}
end
section
variable {X : Cx} {pos p p2 p3 py apos cpos : Pos} {x y : Str} {e e2 ek : Expr} {es : List Expr} {gs : M (List D)} {ge gk : M D} {gn : Sx → Option (R × Sx)} {k n : Nat} {ps : List Str}
end
end Fu

set_option maxHeartbeats 4000000
/-! defs that give a new list of new lists; the least of what they give, as a new list -/
namespace Fu
open PySem PySem.Spec PyProof.Rows L2
variable [TabsC]
def lessM (H : Hp) (as : List Addr) : Hp := fun b => if b ∈ as then none else H b
theorem lessM_same {K : PySem.W.Frag} {A : List Addr} {F H : Hp} {S : Sx} {σ : L2.St} (k : Ok K A F H S σ) {as : List Addr} (fa : ∀ a ∈ as, F a = none) : SameT F (lessM H as) := L2.Same.t fun b o q => by
  show (if b ∈ as then none else H b) = some o
  rw [if_neg (fun z => by rw [fa b z] at q; cases q)]
  exact k.sub.same b o q
/-- the lists at ps, what they hold known in F -/
def LLs (K : PySem.W.Frag) (F G : Hp) (ps : List Addr) (zss : List (List D)) : Prop := ps.length = zss.length ∧ ∀ (i : Nat) a zs, ps[i]? = some a → zss[i]? = some zs → ∃ xs, G a = some (.lst xs) ∧ Rps K F xs zs ∧ zs.length ≤ sizeLine
def spLL (K : PySem.W.Frag) (n : Nat) (f : List D → Option (List (List D))) : Sp := fun vs H Q _ => ∃ (ds : List D) (zss : List (List D)), ds.length = n ∧ Rps K H vs ds ∧ f ds = some zss ∧ LamX.Tabs TabsC.T H ∧
  ∀ (G : Hp) (L : Addr) (ps : List Addr), SameT H (lessM G (L :: ps)) → L ∉ ps → ps.Nodup → G L = some (.lst (ps.map V.ref)) → zss.length ≤ sizeLine → LLs K (lessM G (L :: ps)) G ps zss → Q (.ref L) G
theorem spLL_len {K : PySem.W.Frag} {n : Nat} {f : List D → Option (List (List D))} {ps : List Str} (h : ps.length = n) : ∀ vs H Q E, spLL K n f vs H Q E → vs.length = ps.length := by
  intro vs H Q E ⟨ds, z, e, r, _⟩
  rw [r.length, e, h]
def ownIx : R → Option Nat
  | .own j => some j
  | _ => none
def mLL (n : Nat) (g : Sx → Option Out) : List D → Option (List (List D)) := fun ds => (g ⟨initS n ds, []⟩).bind fun o => match o with
  | .ro j S => match S.os[j]? with
    | some (some (.lR rs)) => (mapO ownIx rs).bind fun js => if (j :: js).Nodup then mapO (cellOf S) js else none
    | _ => none
  | _ => none
theorem owns_at {K : PySem.W.Frag} {A : List Addr} {F : Hp} : ∀ {vs : List V} {rs : List R} {js : List Nat}, Rrs K A F vs rs → mapO ownIx rs = some js → ∃ ps : List Addr, vs = ps.map V.ref ∧ ps.length = js.length ∧ ∀ (i : Nat) a j, ps[i]? = some a → js[i]? = some j → A[j]? = some a
  | _, [], js, h, e => by
    cases h; cases e
    exact ⟨[], rfl, rfl, fun i a j h => by simp at h⟩
  | _, r :: rs, js, h, e => by
    obtain ⟨j, e1, e⟩ := bind_inv e
    obtain ⟨js', e2, rfl⟩ := Option.map_eq_some_iff.mp e
    cases h with
    | cons q h =>
      obtain ⟨ps, rfl, hl, hp⟩ := owns_at h e2
      cases q <;> simp only [ownIx] at e1 <;> try cases e1
      rename_i a ha
      refine ⟨a :: ps, rfl, by simp [hl], fun i b j h1 h2 => ?_⟩
      cases i with
      | zero => cases h1; cases h2; exact ha
      | succ i => exact hp i b j (by simpa using h1) (by simpa using h2)
theorem mapO_at {α β : Type} {f : α → Option β} : ∀ {xs : List α} {ys : List β} {i : Nat} {x : α} {y : β}, mapO f xs = some ys → xs[i]? = some x → ys[i]? = some y → f x = some y
  | [], _, _, _, _, _, h, _ => by simp at h
  | x :: xs, _, i, _, _, e, h1, h2 => by
    obtain ⟨y, e1, e⟩ := bind_inv e
    obtain ⟨ys, e2, rfl⟩ := Option.map_eq_some_iff.mp e
    cases i with
    | zero => cases h1; cases h2; exact e1
    | succ i => exact mapO_at e2 (by simpa using h1) (by simpa using h2)
theorem nd_at {A : List Addr} (ndA : A.Nodup) : ∀ {ps : List Addr} {js : List Nat}, js.Nodup → ps.length = js.length → (∀ (i : Nat) a j, ps[i]? = some a → js[i]? = some j → A[j]? = some a) → ps.Nodup
  | [], _, _, _, _ => List.nodup_nil
  | a :: ps, [], _, hl, _ => by simp at hl
  | a :: ps, j :: js, nd, hl, h => by
    obtain ⟨n1, n2⟩ := List.nodup_cons.mp nd
    have hl' : ps.length = js.length := by simpa using hl
    refine List.nodup_cons.mpr ⟨fun hm => ?_, nd_at ndA n2 hl' fun i b k h1 h2 => h (i + 1) b k (by simpa using h1) (by simpa using h2)⟩
    obtain ⟨i, hi, e⟩ := List.getElem_of_mem hm
    have h0 := h 0 a j rfl rfl
    have h1 := h (i + 1) a js[i] (by simpa using (List.getElem?_eq_some_iff.mpr ⟨hi, e⟩)) (by simpa using (List.getElem?_eq_getElem (by omega)))
    have e2 := idx_nodup ndA h0 h1
    exact n1 (by rw [e2]; exact List.getElem_mem _)
section
variable {P : Program} {w : World} {K : PySem.W.Frag} {mg : Str → Option Value} {base : Heap} {x qual : Str} {st : Stmt} {f : Addr} {fd : FuncData} {N ps : List Str} {k n : Nat} {g : Sx → Option Out}
theorem fn_LL (F : Fun K x qual st f fd) (S : FnScope N ps (defScope st)) (hn : ps.length = n) (hN : n ≤ N.length)
    (body : ∀ (cdv : Value) (A : Around) (outer : List Env) (s : Shared) (H : Hp) (E : XK), Room k (A.deeper (envOfC qual (defScope st) s.heap.objs.size f cdv)) → GSs (cxF P w K mg base N qual st f cdv A outer s H E) AnyB (defBody st) g) :
    FnOk P w K mg base CX0 (k + 1) f fd ps (spLL K n (mLL N.length g)) := by
  refine F.ok S (spLL_len hn) fun cdv A outer s H vs Q E hr h => ?_
  obtain ⟨ds, zss, hd, r, e, tb, post⟩ := h
  obtain ⟨t, p, rd⟩ := (body cdv A outer s H E hr).ex
  refine ⟨t, p, ?_⟩
  obtain ⟨o, e1, e⟩ := bind_inv e
  have hl : vs.length ≤ N.length := by rw [r.length, hd]; exact hN
  refine rd H [] [] H H _ (L2.start N vs) o _ trivial (SameT.refl H) (List.prefix_refl _) (start_dat r hl (Sub.refl H) tb) e1 ?_
  cases o with
  | nx S => cases e
  | rt d S => cases e
  | bk S => cases e
  | ct S => cases e
  | rs r S => cases e
  | ro j S =>
    intro A1 F1 H1 σ1 a s1 p1 k1 ha
    simp only at e
    split at e
    case h_2 => cases e
    rename_i rs ej
    obtain ⟨js, e2, e⟩ := bind_inv e
    split at e
    case isFalse => cases e
    rename_i hnd
    obtain ⟨n1, n2⟩ := List.nodup_cons.mp hnd
    obtain ⟨a', ha', fa, us, hv, hr, hz⟩ := k1.cell j _ ej
    rw [ha] at ha'; cases ha'
    obtain ⟨ps, rfl, hpl, hpa⟩ := owns_at hr e2
    have hnp := nd_at k1.nd n2 hpl hpa
    have hjs : js.length = rs.length := mapO_len e2
    have hzs : zss.length = js.length := mapO_len e
    have hcell : ∀ (i : Nat) b zs, ps[i]? = some b → zss[i]? = some zs → F1 b = none ∧ ∃ xs, H1 b = some (.lst xs) ∧ Rps K F1 xs zs ∧ zs.length ≤ sizeLine := fun i b zs h1 h2 => by
      have hi : i < js.length := by rw [← hzs]; exact (List.getElem?_eq_some_iff.mp h2).1
      have h3 := List.getElem?_eq_getElem hi
      have h4 := hpa i b _ h1 h3
      have h5 : cellOf S js[i] = some zs := mapO_at e h3 h2
      obtain ⟨xs, ec, fb, hb, rb, hzb⟩ := cell_at k1 h5 h4
      exact ⟨fb, xs, hb, rb, hzb⟩
    have hfree : ∀ b ∈ a :: ps, F1 b = none := fun b hb => by
      rcases List.mem_cons.mp hb with rfl | hb
      · exact fa
      · obtain ⟨i, hi, rfl⟩ := List.getElem_of_mem hb
        have hi2 : i < zss.length := by omega
        exact (hcell i _ _ (List.getElem?_eq_getElem hi) (List.getElem?_eq_getElem hi2)).1
    refine post H1 a ps (s1.trans (lessM_same k1 hfree)) (fun hm => ?_) hnp hv (by rw [hzs, hjs]; exact hz) ⟨by rw [hpl, hzs], fun i b zs h1 h2 => ?_⟩
    · obtain ⟨i, hi, e3⟩ := List.getElem_of_mem hm
      have hi2 : i < js.length := by omega
      have h4 := hpa i a _ (List.getElem?_eq_some_iff.mpr ⟨hi, e3⟩) (List.getElem?_eq_getElem hi2)
      have := idx_nodup k1.nd ha h4
      exact n1 (by rw [this]; exact List.getElem_mem _)
    · obtain ⟨_, xs, hb, rb, hzb⟩ := hcell i b zs h1 h2
      exact ⟨xs, hb, Rps.mono (lessM_same k1 hfree) _ _ rb, hzb⟩
theorem has_LL (D : DefAt K mg x st ps) (S : FnScope N ps (defScope st)) (hn : ps.length = n) (hN : n ≤ N.length) (body : Body P w K mg base N x st k AnyB g) : Has P w K mg base x (k + 1) ps (spLL K n (mLL N.length g)) :=
  let ⟨f, fd, m, F, b⟩ := D; ⟨f, fd, m, F.kp, b, fn_LL F S hn hN (body f)⟩
end
theorem mix_free2 {F H G : Hp} {c : Addr} (h1 : F c = none) (h2 : H c = none) : mixH F H G c = G c := by first | exact mix_free h2 | (unfold mixH; rw [h1, h2])
/-- min(f(..)), f gives a new list of new lists: the least of them, nobody's yet -/
def gMinLL (n : Nat) (f : List D → Option (List (List D))) (g : M (List D)) : M D := fun S => (g S).bind fun p => if p.1.length = n then (f p.1).bind fun zss => match zss with
  | z :: zs => if pickOk (.list z :: zs.map .list) = true then match PySem.W.minD (.list z) (zs.map .list) with
    | .list w => some (.list w, p.2)
    | _ => none
    else none
  | [] => none
  else none
theorem lls_rps {K : PySem.W.Frag} {F G M : Hp} (sm : SameT F M) : ∀ {ps : List Addr} {zss : List (List D)}, LLs K F G ps zss → (∀ b ∈ ps, M b = G b) → Rps K M (ps.map V.ref) (zss.map .list)
  | [], [], _, _ => .nil
  | [], z :: zs, h, _ => by have := h.1; simp at this
  | p :: ps, [], h, _ => by have := h.1; simp at this
  | p :: ps, z :: zs, h, hm => by
    obtain ⟨xs, h1, h2, h3⟩ := h.2 0 p z rfl rfl
    refine .cons (.lst (by rw [hm p List.mem_cons_self]; exact h1) (Rps.mono sm _ _ h2) h3) (lls_rps sm ⟨by have := h.1; simpa using this, fun i a w h4 h5 => h.2 (i + 1) a w (by simpa using h4) (by simpa using h5)⟩ fun b hb => hm b (List.mem_cons_of_mem _ hb))
section
variable {X : Cx} {pos p p2 pos2 : Pos} {x : Str} {e : Expr} {es : List Expr} {gs : M (List D)} {k n : Nat} {ps : List Str}
theorem n_minLL {f : List D → Option (List (List D))} (h : Has X.prog X.w X.K X.mg X.base x k ps (spLL X.K n f)) (hr : Room k X.A) (hmin : X.mg "min" = none) (ha : GA X (e :: es) gs) (hc : X.calm = true := by rfl) (hgm : Gl X "min" := by rfl) (hg : Gl X x := by rfl) (hdb : (x == ("__debug__" : Str)) = false := by decide)
    (he : starEach (e :: es) X.env = (false, eval e X.env) :: starEach es X.env := by rfl) (hpl : (backTo pos2 (starEach es X.env)).any (·.1) = false := by rfl)
    (hem : starEach [(.Call (.Name x p2) (e :: es) [] pos2 : Expr)] X.env = (false, eval (.Call (.Name x p2) (e :: es) [] pos2) X.env) :: starEach [] X.env := by rfl) :
    GN X (.Call (.Name "min" p) [.Call (.Name x p2) (e :: es) [] pos2] [] pos) (gMinLL n f gs) := by
  obtain ⟨fa, fd, m, kp, b, F⟩ := h
  obtain ⟨t, pa, ra⟩ := ha.ex
  refine ⟨_, pe_callB (call_minD hr hc) hgm hmin (by decide +kernel) (pa_cons (pe_callF F hr hg m kp b .nil pass0 pa hdb he hpl) pa_nil hem) (by decide) (by decide) hem (by rfl), fun A F H S σ d S' Q k h post => ?_⟩
  obtain ⟨⟨ds, S1⟩, h1, h⟩ := bind_inv h
  simp only at h
  split at h
  case isFalse => cases h
  rename_i hn
  obtain ⟨zss, h2, h⟩ := bind_inv h
  split at h
  case h_2 => cases h
  rename_i z zs
  split at h
  case isFalse => cases h
  rename_i hok
  split at h
  case h_2 => cases h
  rename_i w hw
  cases h
  refine ra A F H S σ ds _ _ k h1 fun A1 F1 H1 vs p1 s1 k1 r1 => ⟨F1, k1.sub, ds, z :: zs, hn, by rw [List.append_nil]; exact r1, h2, k1.tab, fun G L ps sm hL hnp hGL hz hll => ⟨fun b xs q => ?_, fun lost => ?_⟩⟩
  · have q2 := sm.old b _ q trivial
    unfold lessM at q2
    split at q2
    · cases q2
    · exact q2
  have inF : ∀ c o, lessM G (L :: ps) c = some o → G c = some o ∧ c ∉ L :: ps := fun c o q => by
    unfold lessM at q
    split at q
    · cases q
    · rename_i hc; exact ⟨q, hc⟩
  have notF : ∀ c, c ∈ L :: ps → lessM G (L :: ps) c = none := fun c hc => by unfold lessM; rw [if_pos hc]
  have notF1 : ∀ c, c ∈ L :: ps → F1 c = none := fun c hc => by
    cases q : F1 c with
    | none => rfl
    | some u =>
      obtain ⟨u', e'⟩ := sm.stay c u q
      rw [notF c hc] at e'; cases e'
  have hGp : ∀ c ∈ L :: ps, ∃ xs, G c = some (.lst xs) := fun c hc => by
    rcases List.mem_cons.mp hc with rfl | hc
    · exact ⟨_, hGL⟩
    · obtain ⟨i, hi, rfl⟩ := List.getElem_of_mem hc
      have hi2 : i < (z :: zs).length := by rw [← hll.1]; exact hi
      obtain ⟨xs, h3, _⟩ := hll.2 i _ _ (List.getElem?_eq_getElem hi) (List.getElem?_eq_getElem hi2)
      exact ⟨xs, h3⟩
  have notH1 : ∀ c, c ∈ L :: ps → H1 c = none := fun c hc => by
    cases q : H1 c with
    | none => rfl
    | some u =>
      obtain ⟨xs, e'⟩ := hGp c hc
      rw [lost c u q (notF1 c hc)] at e'; cases e'
  have hM : ∀ c, c ∈ L :: ps → (mixH F1 H1 G) c = G c := fun c hc => mix_free2 (notF1 c hc) (notH1 c hc)
  have inM : ∀ c o, lessM G (L :: ps) c = some o → (mixH F1 H1 G) c = some o := fun c o q => by
    obtain ⟨q2, _⟩ := inF c o q
    cases r : F1 c with
    | some u => rw [mix_held r]; exact q2
    | none =>
      cases r2 : H1 c with
      | none => rw [mix_free r2]; exact q2
      | some u => rw [lost c u r2 r] at q2; cases q2
  have smM : SameT (lessM G (L :: ps)) (mixH F1 H1 G) := L2.Same.t inM
  have hrp := lls_rps smM hll fun c hc => hM c (List.mem_cons_of_mem _ hc)
  obtain ⟨q1, q2, q3⟩ := pickOk_all hok
  refine ⟨L, ps.map V.ref, .list z, zs.map .list, rfl, .inl (SqL.of (by rw [hM L List.mem_cons_self]; exact hGL)), Rps.dp _ _ q3 hrp, q1, q2, fun i v hv hd => ?_⟩
  rw [List.getElem?_map] at hv
  obtain ⟨a, hai, rfl⟩ := Option.map_eq_some_iff.mp hv
  have ham : a ∈ L :: ps := List.mem_cons_of_mem _ (List.mem_of_getElem? hai)
  rw [hw] at hd
  have hd2 : (z :: zs)[i]? = some w := by
    have hd3 : ((z :: zs).map PyData.list)[i]? = some (.list w) := hd
    rw [List.getElem?_map] at hd3
    obtain ⟨w', h3, h4⟩ := Option.map_eq_some_iff.mp hd3
    cases h4
    exact h3
  obtain ⟨xs, g1, g2, g3⟩ := hll.2 i a w hai hd2
  have hMa : (mixH F1 H1 G) a = some (.lst xs) := by rw [hM a ham]; exact g1
  have km : Ok X.K A1 (lessM G (L :: ps)) (mixH F1 H1 (lessM G (L :: ps))) S' σ := k1.mix sm fun c o ho hf => by
    have := lost c o ho hf
    unfold lessM
    split
    · rfl
    · exact this
  have kk : Ok X.K A1 (lessM G (L :: ps)) (lessH (mixH F1 H1 G) a) S' σ := by
    refine km.grow ⟨fun c o q => ?_, fun c o q nq => ?_⟩ (SameT.refl _) (fun c hc o q => ?_) fun c hc q => q
    · show (if c = a then none else (mixH F1 H1 G) c) = some o
      rw [if_neg (fun hz => (inF c o q).2 (by rw [hz]; exact ham))]
      exact inM c o q
    · have q' : (if c = a then none else (mixH F1 H1 G) c) = some o := q
      by_cases hca : c = a
      · rw [if_pos hca] at q'; cases q'
      · rw [if_neg hca] at q'
        cases r : F1 c with
        | some u =>
          obtain ⟨u', e'⟩ := sm.stay c u r
          rw [nq] at e'; cases e'
        | none =>
          cases r2 : H1 c with
          | some u => rw [mix_lost r r2] at q'; cases q'; exact k1.sub.loose c _ r2 r
          | none =>
            rw [mix_free r2] at q'
            by_cases hc2 : c ∈ L :: ps
            · obtain ⟨ys, e'⟩ := hGp c hc2
              rw [e'] at q'; cases q'; trivial
            · unfold lessM at nq
              rw [if_neg hc2, q'] at nq; cases nq
    · show (if c = a then none else (mixH F1 H1 G) c) = some o
      by_cases hca : c = a
      · subst hca
        rw [mix_free2 (notF1 c ham) (notH1 c ham), notF c ham] at q; cases q
      · rw [if_neg hca]
        cases r : F1 c with
        | some u => rw [mix_held r] at q; exact inM c o q
        | none =>
          cases r2 : H1 c with
          | some u => rw [mix_lost r r2] at q ⊢; exact q
          | none => rw [mix_free r2] at q; exact inM c o q
  have := post A1 (lessM G (L :: ps)) (lessH (mixH F1 H1 G) a) a xs w p1 (s1.trans sm) kk (if_pos rfl) rfl g2 g3
  rwa [less_upd hMa] at this
end
/-- [], a list of lists to come -/
def rNil : Sx → Option (R × Sx) := fun S => some (.own S.os.length, ⟨S.sl, S.os ++ [some (.lR [])]⟩)
/-- xs.extend([..]), lists of new lists -/
def gExtLR (i : Nat) (gr : Sx → Option (R × Sx)) : M D := fun S => match S.sl[i]? with
  | some (some (.own j)) => match S.os[j]? with
    | some (some (.lR _)) => (gr S).bind fun p => match p.1 with
      | .own j2 => match p.2.os[j]? with
        | some (some (.lR rs)) => match p.2.os[j2]? with
          | some (some (.lR rs2)) => if rs.length + rs2.length ≤ sizeLine then some (.none, ⟨p.2.sl, p.2.os.set j (some (.lR (rs ++ rs2)))⟩) else none
          | _ => none
        | _ => none
      | _ => none
    | _ => none
  | _ => none
def qRetLR (i : Nat) : Sx → Option Out := fun S => match S.sl[i]? with
  | some (some (.own j)) => some (.ro j S)
  | _ => none
section
variable {X : Cx} {P : Hp → Prop} {pos apos py lpos : Pos} {y : Str} {e elt tg iter : Expr} {ifs : List Expr} {scope : Scope} {gi : M (List D)} {gg : D → Sx → Option Sx} {gt : M Bool} {gr : Sx → Option (R × Sx)} {tgt : List Nat}
theorem r_nil {lx} : GR X (.List [] lx) rNil := by
  obtain ⟨t, pe, re⟩ := (n_lst (X := X) (pos := lx) (a_nil (X := X))).ex
  refine ⟨t, pe, fun A F H S σ r S' Q k h post => ?_⟩
  cases h
  refine re A F H S σ (.list []) S Q k rfl fun A1 F1 G p vs ds' p1 s1 k1 hp ed rv hz => ?_
  cases ed
  cases rv
  have k2 := k1.cellNew (o := .lst []) (c := .lR []) hp trivial ⟨[], upd_same, .nil, hz⟩
  exact post _ F1 _ _ (p1.trans (List.prefix_append _ _)) s1 k2 (.own (by rw [k1.alen]; simp))
theorem r_lcR (own : List (Str × Nat)) (hN : X.N.Nodup) (hi : GI X tg iter gi) (ok : BlkOk X.N X.env.scope scope own) (hg : InBlk X scope fun Y => GG Y tgt tg gg) (ht : InBlk X scope fun Y => GTs Y ifs gt) (he : InBlk X scope fun Y => GR Y elt gr)
    (hv : ∀ i ∈ tgt, i ∈ own.map (·.2) := by decide) (hc : X.calm = true := by rfl) (hs : ∀ x, foldedSetIterable iter X.env x = pure x := by intro _; rfl) : GR X (.ListComp elt [⟨tg, iter, ifs, 0⟩] scope pos) (rLc gi gg gt gr (own.map (·.2))) :=
  ⟨_, pe_lc hc hN hi.pi ok (fun s H C cl fp => pg_fr (hg s H C cl fp).pg) (fun s H C cl fp => pts_fr (ht s H C cl fp).pts) (fun s H C cl fp => pe_fr (he s H C cl fp).pe) hs, rd_lcR rd_iof rd_gof rd_tof rd_rof hv⟩
theorem e_extLR (i : Nat) (he : GR X e gr) (hN : X.N[i]? = some y := by rfl) (hv : Vis X.env.scope y := by first | exact Or.inl rfl | exact Or.inr (Or.inl rfl) | exact Or.inr (Or.inr rfl)) (hdy : (y == ("__debug__" : Str)) = false := by decide) (hcd : (y == ("__classdict__" : Str)) = false := by decide)
    (hbase : attributeBase (.Name y py) "extend" X.env (eval (.Name y py) X.env) = eval (.Name y py) X.env := by rfl)
    (hfew : ((backTo pos (starEach [e] X.env)).all (fun x => !x.1) && (backToKw pos (keywordEach [] X.env)).all (fun x => x.1.isSome) && decide (([e] : List Expr).length + ([] : List Keyword).length + (if ([] : List Keyword).isEmpty then 0 else 1) < 30)) = true := by rfl)
    (hline : (apos.endLine == pos.line) = true := by rfl) (hst : starEach [e] X.env = (false, eval e X.env) :: starEach [] X.env := by rfl) : GE X (.Call (.Attribute (.Name y py) "extend" apos) [e] [] pos) (gExtLR i gr) := by
  obtain ⟨t, pa, ra⟩ := he.ex
  refine ⟨_, pe_bm PySem.F.plainAttrs_list PySem.F.slot_list_extend PySem.F.type_list_extend mt_extend (pe_var hN hv hdy hcd) (pa_cons pa pa_nil hst) hbase hfew hline hst (by rfl), fun A F H S σ d S' Q k h post => ?_⟩
  unfold gExtLR at h
  split at h
  case h_2 => cases h
  rename_i j er
  split at h
  case h_2 => cases h
  rename_i rs0 ec0
  obtain ⟨⟨r, S1⟩, h1, h⟩ := bind_inv h
  simp only at h
  split at h
  case h_2 => cases h
  rename_i j2
  split at h
  case h_2 => cases h
  rename_i rs ec1
  split at h
  case h_2 => cases h
  rename_i rs2 ec2
  split at h
  case isFalse => cases h
  rename_i hlt
  cases h
  obtain ⟨a, ha, ev⟩ := k.oslot i j er
  obtain ⟨a0, ha0, _, vs0, hvs0, _, _⟩ := k.cell j _ ec0
  rw [ha] at ha0; cases ha0
  refine ⟨_, ev, .inl ⟨rfl, _, SqL.of hvs0⟩, ra A F H S σ _ S1 _ k h1 fun A1 F1 H1 v p1 s1 k1 r1 => ?_⟩
  cases r1 with
  | own hb =>
    rename_i b
    obtain ⟨a1, ha1, _, vs, hvs, hr, hz⟩ := k1.cell j _ ec1
    rw [prefix_at p1 ha] at ha1; cases ha1
    obtain ⟨b1, hb1, _, us, hus, hr2, hz2⟩ := k1.cell j2 _ ec2
    rw [hb] at hb1; cases hb1
    refine ⟨a, b, vs, us, rfl, rfl, hvs, hus, by rw [hr.length, hr2.length]; exact hlt, ?_⟩
    exact post A1 F1 _ _ p1 s1 (k1.cellSet ec1 (prefix_at p1 ha) trivial ⟨_, upd_same, hr.append hr2, by rw [List.length_append]; exact hlt⟩) .non
theorem s_retLR (i : Nat) (hN : X.N[i]? = some y := by rfl) (hv : Vis X.env.scope y := by first | exact Or.inl rfl | exact Or.inr (Or.inl rfl) | exact Or.inr (Or.inr rfl)) (hdy : (y == ("__debug__" : Str)) = false := by decide) (hcd : (y == ("__classdict__" : Str)) = false := by decide) :
    GS X P (.Return (some (.Name y py)) pos) (qRetLR i) := by
  refine ⟨_, ps_ret (pe_var hN hv hdy hcd), fun B A0 A F H S σ o E hP s p k h post => ?_⟩
  unfold qRetLR at h
  split at h
  case h_2 => cases h
  rename_i j ej
  cases h
  obtain ⟨a, ha, ev⟩ := k.oslot i j ej
  exact ⟨_, ev, post A F H σ a s p k ha⟩
end
end Fu

set_option maxHeartbeats 4000000
namespace Fu
open PySem
variable [TabsC]

/-! ### data: shaped, equal -/
theorem shaped_iff {d : D} : SeqAt.shaped d = true ↔ d.canLay0 = true ∧ d.depth ≤ 64 := by
  unfold SeqAt.shaped
  rw [Bool.and_eq_true, decide_eq_true_eq]
@[simp] theorem shaped_int (i : Int) : SeqAt.shaped (.int i) = true := by simp [shaped_iff, PyData.canLay0, PyData.depth]
@[simp] theorem shaped_bool (b : Bool) : SeqAt.shaped (.bool b) = true := by simp [shaped_iff, PyData.canLay0, PyData.depth]
@[simp] theorem shaped_none : SeqAt.shaped .none = true := by simp [shaped_iff, PyData.canLay0, PyData.depth]
@[simp] theorem dEq_int (a b : Int) : dEq (.int a) (.int b) = some (.bool (decide (a = b))) := by
  simp [dEq, PyData.eqv, Bool.beq_eq_decide_eq]
@[simp] theorem dNe_int (a b : Int) : dNe (.int a) (.int b) = some (.bool (!decide (a = b))) := by
  simp [dNe, PyData.eqv, Bool.beq_eq_decide_eq]
theorem dNe_self {d : D} (h : SeqAt.shaped d = true) : dNe d d = some (.bool false) := by
  unfold dNe
  rw [if_pos ⟨h, h⟩, SeqAt.eqv_refl _ (shaped_iff.mp h).1]; rfl
/-- lists (tuples) of things of one shape, their depth at most n -/
def Fine (n : Nat) (d : D) : Prop := d.canLay0 = true ∧ d.depth ≤ n
theorem Fine.mono {m n : Nat} {d : D} (h : Fine m d) (l : m ≤ n) : Fine n d := ⟨h.1, Nat.le_trans h.2 l⟩
theorem Fine.shaped {n : Nat} {d : D} (h : Fine n d) (l : n ≤ 64 := by decide) : SeqAt.shaped d = true := shaped_iff.mpr ⟨h.1, Nat.le_trans h.2 l⟩
theorem fine_all {n : Nat} : ∀ {ds : List D}, (∀ d ∈ ds, Fine n d) → PyData.canLayAll0 ds = true ∧ PyData.depthAll ds ≤ n
  | [], _ => ⟨rfl, Nat.zero_le _⟩
  | d :: ds, h => by
    obtain ⟨a, b⟩ := fine_all fun e he => h e (List.mem_cons_of_mem _ he)
    have c := h d List.mem_cons_self
    exact ⟨by simp [PyData.canLayAll0, a, c.1], by simp only [PyData.depthAll]; exact Nat.max_le.mpr ⟨c.2, b⟩⟩
theorem fine_list {n : Nat} {ds : List D} (h : ∀ d ∈ ds, Fine n d) : Fine (n + 1) (.list ds) := by
  obtain ⟨a, b⟩ := fine_all h
  exact ⟨by simpa [PyData.canLay0] using a, by simp only [PyData.depth]; omega⟩
theorem fine_tup {n : Nat} {ds : List D} (h : ∀ d ∈ ds, Fine n d) : Fine (n + 1) (.tuple ds) := by
  obtain ⟨a, b⟩ := fine_all h
  exact ⟨by simpa [PyData.canLay0] using a, by simp only [PyData.depth]; omega⟩
theorem fine_int (i : Int) : Fine 0 (.int i) := ⟨by simp [PyData.canLay0], by simp [PyData.depth]⟩
theorem fine_str {x : Str} (h : PyData.strOk x = true) : Fine 0 (.str x) := ⟨by simpa [PyData.canLay0] using h, by simp [PyData.depth]⟩
/-- one sign -/
def ch (c : Nat) : D := .str ⟨#[c]⟩
theorem fine_ch {c : Nat} (h : c < 0x110000) : Fine 0 (ch c) := fine_str (by simp [PyData.strOk, h])
theorem ch_inj {a b : Nat} (h : ch a = ch b) : a = b := by
  unfold ch at h
  injection h with h
  injection h with h
  have := congrArg (fun z : Array Nat => z.toList) h
  simpa using this
theorem dEq_ch {a b : Nat} (ha : a < 0x110000) (hb : b < 0x110000) : dEq (ch a) (ch b) = some (.bool (decide (a = b))) := by
  unfold dEq
  rw [if_pos ⟨(fine_ch ha).shaped, (fine_ch hb).shaped⟩]
  congr 2
  unfold ch
  simp only [PyData.eqv]
  by_cases h : a = b
  · subst h; simp
  · rw [decide_eq_false h, beq_eq_false_iff_ne]
    intro e
    exact h (ch_inj (congrArg PyData.str e))
theorem dNe_ch {a b : Nat} (ha : a < 0x110000) (hb : b < 0x110000) : dNe (ch a) (ch b) = some (.bool (!decide (a = b))) := by
  have h := dEq_ch ha hb
  unfold dEq at h
  unfold dNe
  rw [if_pos ⟨(fine_ch ha).shaped, (fine_ch hb).shaped⟩] at h ⊢
  injection h with h
  injection h with h
  rw [h]

/-! ### comprehensions that change nothing else -/
theorem backS_same {old new : List (Option R)} {vs : List Nat} (h : wipeS new vs = wipeS old vs) : backS old new vs = old := by
  have hl : old.length = new.length := by
    have := congrArg List.length h
    rw [wipeS_len, wipeS_len] at this
    exact this.symm
  apply List.ext_getElem?
  intro n
  rw [backS_in hl]
  by_cases hn : n ∈ vs
  · rw [if_pos hn]
  · rw [if_neg hn]
    have := congrArg (fun l => l[n]?) h
    have h2 : (wipeS new vs)[n]? = (wipeS old vs)[n]? := this
    rwa [wipeS_out hn, wipeS_out hn] at h2
/-- the turns of a comprehension whose parts change nothing but its own names -/
theorem turns_pure {gg : D → Sx → Option Sx} {gt : M Bool} {ge : M D} {vs : List Nat} {b : D → Bool} {f : D → D} {w : List (Option R)} {os : List (Option Cell)} :
    ∀ (ds : List D) (sl : List (Option R)), wipeS sl vs = w → (∀ d ∈ ds, ∃ sl1, gg d ⟨w, os⟩ = some ⟨sl1, os⟩ ∧ wipeS sl1 vs = w ∧ gt ⟨sl1, os⟩ = some (b d, ⟨sl1, os⟩) ∧ (b d = true → ge ⟨sl1, os⟩ = some (f d, ⟨sl1, os⟩))) →
      ∃ sl', wipeS sl' vs = w ∧ gTurns gg gt ge vs ds ⟨sl, os⟩ = some ((ds.filter b).map f, ⟨sl', os⟩)
  | [], sl, e, _ => ⟨sl, e, rfl⟩
  | d :: ds, sl, e, h => by
    obtain ⟨sl1, h1, h2, h3, h4⟩ := h d List.mem_cons_self
    obtain ⟨sl', e', ih⟩ := turns_pure ds sl1 h2 fun x hx => h x (List.mem_cons_of_mem _ hx)
    refine ⟨sl', e', ?_⟩
    rw [gTurns]
    simp only [e, h1, h3, Option.bind_some]
    cases hb : b d with
    | true => simp [h4 hb, ih, hb]
    | false => simp [ih, hb]
/-! ### loops -/
theorem loop_inv {gg : D → Sx → Option Sx} {body : Sx → Option Out} (I : Nat → Sx → Prop) : ∀ (ds : List D) (n : Nat) (S : Sx), I n S → (∀ i d S, ds[i]? = some d → I (n + i) S → ∃ S1 S2, gg d S = some S1 ∧ body S1 = some (.nx S2) ∧ I (n + i + 1) S2) →
    ∃ S', gLoop gg body ds S = some (.nx S') ∧ I (n + ds.length) S'
  | [], n, S, h0, _ => ⟨S, rfl, h0⟩
  | d :: ds, n, S, h0, hs => by
    obtain ⟨S1, S2, h1, h2, h3⟩ := hs 0 d S rfl h0
    obtain ⟨S', h4, h5⟩ := loop_inv I ds (n + 1) S2 h3 fun i e T he hI => by
      have := hs (i + 1) e T (by simpa using he) (by rwa [show n + (i + 1) = n + 1 + i by omega])
      rwa [show n + (i + 1) + 1 = n + 1 + i + 1 by omega] at this
    refine ⟨S', ?_, by rwa [show n + (d :: ds).length = n + 1 + ds.length by simp; omega]⟩
    rw [gLoop]
    simp only [h1, h2, Option.bind_some]
    exact h4
theorem rng_at {lo : Int} {n i : Nat} {d : D} (h : (rng lo n)[i]? = some d) : i < n ∧ d = .int (lo + i) := by
  unfold rng at h
  rw [List.getElem?_map] at h
  obtain ⟨j, hj, rfl⟩ := Option.map_eq_some_iff.mp h
  obtain ⟨h1, h2⟩ := List.getElem?_eq_some_iff.mp hj
  simp at h1 h2
  subst h2
  exact ⟨h1, rfl⟩
theorem atI_ok {α : Type} {xs : List α} {i : Int} (h0 : 0 ≤ i) (h1 : i < xs.length) : L2.atI xs i = xs[i.toNat]? := by
  unfold L2.atI L2.ixN
  rw [if_pos h0, if_pos h1]; rfl
theorem line_eq : sizeLine = 16777216 := sizeLine_eq
end Fu

set_option maxHeartbeats 4000000
namespace Fu
open PySem
variable [TabsC]

/-! ### plain data: no truth value inside; there python's equality is equality -/
mutual
def plain : D → Bool
  | .none | .int _ | .str _ => true
  | .bool _ | .dict _ => false
  | .list xs | .tuple xs => plains xs
def plains : List D → Bool
  | [] => true
  | x :: xs => plain x && plains xs
end
mutual
theorem eqv_plain : ∀ d e : D, plain d = true → plain e = true → (PyData.eqv d e = true ↔ d = e)
  | .none, e, _, h => by cases e <;> simp [PyData.eqv, plain] at h ⊢
  | .int i, e, _, h => by cases e <;> simp [PyData.eqv, plain] at h ⊢
  | .str i, e, _, h => by cases e <;> simp [PyData.eqv, plain] at h ⊢
  | .bool b, _, h, _ => by simp [plain] at h
  | .dict b, _, h, _ => by simp [plain] at h
  | .list xs, e, h1, h2 => by
    cases e with
    | list ys =>
      simp only [plain] at h1 h2
      rw [PyData.eqv, eqvs_plain xs ys h1 h2]
      exact ⟨fun h => by rw [h], fun h => by injection h⟩
    | _ => simp [PyData.eqv, plain] at h2 ⊢
  | .tuple xs, e, h1, h2 => by
    cases e with
    | tuple ys =>
      simp only [plain] at h1 h2
      rw [PyData.eqv, eqvs_plain xs ys h1 h2]
      exact ⟨fun h => by rw [h], fun h => by injection h⟩
    | _ => simp [PyData.eqv, plain] at h2 ⊢
theorem eqvs_plain : ∀ xs ys : List D, plains xs = true → plains ys = true → (PyData.eqvAll xs ys = true ↔ xs = ys)
  | [], ys, _, _ => by cases ys <;> simp [PyData.eqvAll]
  | x :: xs, [], _, _ => by simp [PyData.eqvAll]
  | x :: xs, y :: ys, h1, h2 => by
    simp only [plains, Bool.and_eq_true] at h1 h2
    rw [PyData.eqvAll, Bool.and_eq_true, eqv_plain x y h1.1 h2.1, eqvs_plain xs ys h1.2 h2.2]
    exact ⟨fun h => by rw [h.1, h.2], fun h => by injection h; exact ⟨by assumption, by assumption⟩⟩
end
theorem plains_all {xs : List D} : plains xs = true ↔ ∀ d ∈ xs, plain d = true := by
  induction xs with
  | nil => simp [plains]
  | cons x xs ih => simp [plains, ih]
/-- good data: plain, of shape, not deep -/
structure Good (n : Nat) (d : D) : Prop where
  fine : Fine n d
  plain : plain d = true
theorem Good.shaped {n : Nat} {d : D} (h : Good n d) (l : n ≤ 64 := by decide) : SeqAt.shaped d = true := h.fine.shaped l
theorem Good.mono {m n : Nat} {d : D} (h : Good m d) (l : m ≤ n) : Good n d := ⟨h.fine.mono l, h.plain⟩
theorem good_int (i : Int) : Good 0 (.int i) := ⟨fine_int i, rfl⟩
theorem good_ch {c : Nat} (h : c < 0x110000) : Good 0 (ch c) := ⟨fine_ch h, rfl⟩
theorem good_list {n : Nat} {ds : List D} (h : ∀ d ∈ ds, Good n d) : Good (n + 1) (.list ds) := ⟨fine_list fun d hd => (h d hd).fine, plains_all.mpr fun d hd => (h d hd).plain⟩
theorem good_tup {n : Nat} {ds : List D} (h : ∀ d ∈ ds, Good n d) : Good (n + 1) (.tuple ds) := ⟨fine_tup fun d hd => (h d hd).fine, plains_all.mpr fun d hd => (h d hd).plain⟩
theorem good_list_le {m n : Nat} {ds : List D} (h : ∀ d ∈ ds, Good m d) (l : m + 1 ≤ n) : Good n (.list ds) := (good_list h).mono l
open Classical in
theorem dEq_good {m n : Nat} {d e : D} (h : Good m d) (k : Good n e) (l1 : m ≤ 64 := by decide) (l2 : n ≤ 64 := by decide) : dEq d e = some (.bool (decide (d = e))) := by
  unfold dEq
  rw [if_pos ⟨h.shaped l1, k.shaped l2⟩]
  by_cases x : d = e
  · rw [(eqv_plain d e h.plain k.plain).mpr x, decide_eq_true x]
  · rw [decide_eq_false x, Bool.eq_false_iff.mpr fun z => x ((eqv_plain d e h.plain k.plain).mp z)]
open Classical in
/-! ### what a run answers, forwards -/
def Ev {α : Type} (x : Option (α × Sx)) (Q : α → Sx → Prop) : Prop := ∃ a S, x = some (a, S) ∧ Q a S
def Es (x : Option Sx) (Q : Sx → Prop) : Prop := ∃ S, x = some S ∧ Q S
def Eo (x : Option Out) (Q : Out → Prop) : Prop := ∃ o, x = some o ∧ Q o
def Ed {α : Type} (x : Option α) (Q : α → Prop) : Prop := ∃ d, x = some d ∧ Q d
theorem Ev.mono {α : Type} {x : Option (α × Sx)} {P Q : α → Sx → Prop} (h : Ev x P) (f : ∀ a S, P a S → Q a S) : Ev x Q := let ⟨a, S, e, p⟩ := h; ⟨a, S, e, f a S p⟩
theorem Eo.mono {x : Option Out} {P Q : Out → Prop} (h : Eo x P) (f : ∀ a, P a → Q a) : Eo x Q := let ⟨a, e, p⟩ := h; ⟨a, e, f a p⟩
theorem Ed.of {α : Type} {x : Option α} {d : α} {Q : α → Prop} (e : x = some d) (h : Q d) : Ed x Q := ⟨d, e, h⟩
theorem Ev.of {α : Type} {x : Option (α × Sx)} {d : α} {S : Sx} {Q : α → Sx → Prop} (e : x = some (d, S)) (h : Q d S) : Ev x Q := ⟨d, S, e, h⟩
theorem Ev.eq {α : Type} {x : Option (α × Sx)} {d : α} {S : Sx} (h : Ev x fun a T => a = d ∧ T = S) : x = some (d, S) := by
  obtain ⟨a, T, e, rfl, rfl⟩ := h; exact e
theorem Es.eq {x : Option Sx} {S : Sx} (h : Es x fun T => T = S) : x = some S := by
  obtain ⟨T, e, rfl⟩ := h; exact e
section
variable {α : Type} {S : Sx} {Q : D → Sx → Prop} {P : Bool → Sx → Prop} {L : List D → Sx → Prop} {O : Option Int → Sx → Prop} {Z : Out → Prop} {W : Sx → Prop}
theorem ev_c {d : D} (h : Q d S) : Ev (gC d S) Q := ⟨d, S, rfl, h⟩
theorem ev_var {sl : List (Option R)} {os : List (Option Cell)} {i : Nat} (h : ∃ d, sl[i]? = some (some (.dat d)) ∧ Q d ⟨sl, os⟩) : Ev (gVar i ⟨sl, os⟩) Q := by
  obtain ⟨d, e, h⟩ := h
  exact ⟨d, _, by unfold gVar; simp only [e], h⟩
theorem ev_bin {f : D → D → Option D} {ga gb : M D} (h : Ev (ga S) fun d S1 => Ev (gb S1) fun e S2 => Ed (f d e) fun z => Q z S2) : Ev (gBin f ga gb S) Q := by
  obtain ⟨d, S1, e1, e, S2, e2, z, e3, q⟩ := h
  exact ⟨z, S2, by simp only [gBin, e1, e2, e3, Option.bind_some], q⟩
theorem ev_un {f : D → Option D} {ga : M D} (h : Ev (ga S) fun d S1 => Ed (f d) fun z => Q z S1) : Ev (gUn f ga S) Q := by
  obtain ⟨d, S1, e1, z, e3, q⟩ := h
  exact ⟨z, S1, by simp only [gUn, e1, e3, Option.bind_some], q⟩
theorem ev_nil (h : L [] S) : Ev (gNil S) L := ⟨_, _, rfl, h⟩
theorem ev_cons {g : M D} {gs : M (List D)} (h : Ev (g S) fun d S1 => Ev (gs S1) fun ds S2 => L (d :: ds) S2) : Ev (gCons g gs S) L := by
  obtain ⟨d, S1, e1, e, S2, e2, q⟩ := h
  exact ⟨_, S2, by simp only [gCons, e1, e2, Option.bind_some], q⟩
theorem ev_tup {g : M (List D)} (h : Ev (g S) fun ds S1 => ds.length ≤ 16777216 ∧ Q (.tuple ds) S1) : Ev (gTup g S) Q := by
  obtain ⟨d, S1, e1, l, q⟩ := h
  exact ⟨_, S1, by simp only [gTup, e1, Option.bind_some, line_eq, if_pos l], q⟩
theorem ev_lst {g : M (List D)} (h : Ev (g S) fun ds S1 => ds.length ≤ 16777216 ∧ Q (.list ds) S1) : Ev (gLst g S) Q := by
  obtain ⟨d, S1, e1, l, q⟩ := h
  exact ⟨_, S1, by simp only [gLst, e1, Option.bind_some, line_eq, if_pos l], q⟩
theorem ev_call {f : List D → Option D} {g : M (List D)} (h : Ev (g S) fun ds S1 => Ed (f ds) fun z => Q z S1) : Ev (gCall f g S) Q := by
  obtain ⟨d, S1, e1, z, e3, q⟩ := h
  exact ⟨z, S1, by simp only [gCall, e1, e3, Option.bind_some], q⟩
theorem ev_callF {n : Nat} {f : List D → Option D} {g : M (List D)} (h : Ev (g S) fun ds S1 => ds.length = n ∧ Ed (f ds) fun z => Q z S1) : Ev (gCallF n f g S) Q := by
  obtain ⟨d, S1, e1, l, z, e3, q⟩ := h
  exact ⟨z, S1, by simp only [gCallF, e1, e3, Option.bind_some, if_pos l], q⟩
theorem ev_isi {T : String} {g : M D} (h : Ev (g S) fun d S1 => Q (.bool (isT T d)) S1) : Ev (gIsi T g S) Q := by
  obtain ⟨d, S1, e1, q⟩ := h
  exact ⟨_, S1, by simp only [gIsi, e1, Option.bind_some], q⟩
theorem ev_isi2 {T U : String} {g : M D} (h : Ev (g S) fun d S1 => Q (.bool (isT T d || isT U d)) S1) : Ev (gIsi2 T U g S) Q := by
  obtain ⟨d, S1, e1, q⟩ := h
  exact ⟨_, S1, by simp only [gIsi2, e1, Option.bind_some], q⟩
theorem ev_andV {g k : M D} (h : Ev (g S) fun d S1 => ∃ b, d = .bool b ∧ (b = true → Ev (k S1) fun e S2 => ∃ c, e = .bool c ∧ Q (.bool c) S2) ∧ (b = false → Q (.bool false) S1)) : Ev (gAndV g k S) Q := by
  obtain ⟨d, S1, e1, b, rfl, h1, h2⟩ := h
  cases b with
  | true => 
    obtain ⟨e, S2, e2, c, rfl, q⟩ := h1 rfl
    exact ⟨_, S2, by simp [gAndV, e1, e2], q⟩
  | false => exact ⟨_, S1, by simp [gAndV, e1], h2 rfl⟩
theorem ev_orV {g k : M D} (h : Ev (g S) fun d S1 => ∃ b, d = .bool b ∧ (b = false → Ev (k S1) fun e S2 => ∃ c, e = .bool c ∧ Q (.bool c) S2) ∧ (b = true → Q (.bool true) S1)) : Ev (gOrV g k S) Q := by
  obtain ⟨d, S1, e1, b, rfl, h1, h2⟩ := h
  cases b with
  | false => 
    obtain ⟨e, S2, e2, c, rfl, q⟩ := h1 rfl
    exact ⟨_, S2, by simp [gOrV, e1, e2], q⟩
  | true => exact ⟨_, S1, by simp [gOrV, e1], h2 rfl⟩
theorem ev_notV {g : M D} (h : Ev (g S) fun d S1 => ∃ b, d = .bool b ∧ Q (.bool !b) S1) : Ev (gNotV g S) Q := by
  obtain ⟨d, S1, e1, b, rfl, q⟩ := h
  exact ⟨_, S1, by simp [gNotV, e1], q⟩
theorem ev_B {g : M D} (h : Ev (g S) fun d S1 => ∃ b, d = .bool b ∧ P b S1) : Ev (gB g S) P := by
  obtain ⟨d, S1, e1, b, rfl, q⟩ := h
  exact ⟨b, S1, by simp only [gB, e1, Option.bind_some], q⟩
theorem ev_and {g k : M Bool} (h : Ev (g S) fun b S1 => (b = true → Ev (k S1) P) ∧ (b = false → P false S1)) : Ev (gAnd g k S) P := by
  obtain ⟨b, S1, e1, h1, h2⟩ := h
  cases b with
  | true => 
    obtain ⟨c, S2, e2, q⟩ := h1 rfl
    exact ⟨_, S2, by simp [gAnd, e1, e2], q⟩
  | false => exact ⟨_, S1, by simp [gAnd, e1], h2 rfl⟩
theorem ev_or {g k : M Bool} (h : Ev (g S) fun b S1 => (b = false → Ev (k S1) P) ∧ (b = true → P true S1)) : Ev (gOr g k S) P := by
  obtain ⟨b, S1, e1, h1, h2⟩ := h
  cases b with
  | false => 
    obtain ⟨c, S2, e2, q⟩ := h1 rfl
    exact ⟨_, S2, by simp [gOr, e1, e2], q⟩
  | true => exact ⟨_, S1, by simp [gOr, e1], h2 rfl⟩
theorem ev_not {g : M Bool} (h : Ev (g S) fun b S1 => P (!b) S1) : Ev (gNot g S) P := by
  obtain ⟨b, S1, e1, q⟩ := h
  exact ⟨_, S1, by simp [gNot, e1], q⟩
theorem ev_yes (h : P true S) : Ev (gYes S) P := ⟨_, _, rfl, h⟩
theorem ev_if {t : M Bool} {g k : M D} (h : Ev (t S) fun b S1 => (b = true → Ev (g S1) Q) ∧ (b = false → Ev (k S1) Q)) : Ev (gIf t g k S) Q := by
  obtain ⟨b, S1, e1, h1, h2⟩ := h
  cases b with
  | true => 
    obtain ⟨c, S2, e2, q⟩ := h1 rfl
    exact ⟨_, S2, by simp [gIf, e1, e2], q⟩
  | false =>
    obtain ⟨c, S2, e2, q⟩ := h2 rfl
    exact ⟨_, S2, by simp [gIf, e1, e2], q⟩
theorem ev_no (h : O none S) : Ev (gNo S) O := ⟨_, _, rfl, h⟩
theorem ev_so {g : M D} (h : Ev (g S) fun d S1 => ∃ i, d = .int i ∧ O (some i) S1) : Ev (gSo g S) O := by
  obtain ⟨d, S1, e1, i, rfl, q⟩ := h
  exact ⟨_, S1, by simp only [gSo, e1, Option.bind_some], q⟩
theorem ev_sl {g : M D} {gl gh : M (Option Int)} (h : Ev (g S) fun d S1 => Ev (gl S1) fun lo S2 => Ev (gh S2) fun hi S3 => Ed (dSl d lo hi) fun z => Q z S3) : Ev (gSl g gl gh S) Q := by
  obtain ⟨d, S1, e1, lo, S2, e2, hi, S3, e3, z, e4, q⟩ := h
  exact ⟨z, S3, by simp only [gSl, e1, e2, e3, e4, Option.bind_some], q⟩
theorem ev_items {g : M D} (h : Ev (g S) fun d S1 => Ed (itemsOf d) fun xs => L xs S1) : Ev (gItems g S) L := by
  obtain ⟨d, S1, e1, xs, e2, q⟩ := h
  exact ⟨xs, S1, by simp only [gItems, e1, e2, Option.bind_some], q⟩
theorem ev_rng1 {g : M (List D)} (h : Ev (g S) fun ds S1 => ∃ n : Int, ds = [.int n] ∧ -4611686018427387904 ≤ n ∧ n ≤ 16777216 ∧ L (rng 0 n.toNat) S1) : Ev (gRng1 g S) L := by
  obtain ⟨ds, S1, e1, n, rfl, l1, l2, q⟩ := h
  exact ⟨_, S1, by simp only [gRng1, e1, Option.bind_some, line_eq]; rw [if_pos ⟨by omega, by omega⟩], q⟩
theorem ev_rng2 {g : M (List D)} (h : Ev (g S) fun ds S1 => ∃ i j : Int, ds = [.int i, .int j] ∧ -4294967296 ≤ i ∧ i ≤ 4294967296 ∧ -4294967296 ≤ j ∧ j ≤ 4294967296 ∧ j - i ≤ 16777216 ∧ L (rng i (j - i).toNat) S1) : Ev (gRng2 g S) L := by
  obtain ⟨ds, S1, e1, i, j, rfl, l1, l2, l3, l4, l5, q⟩ := h
  exact ⟨_, S1, by simp only [gRng2, e1, Option.bind_some, line_eq]; rw [if_pos ⟨by omega, by omega, by omega, by omega, by omega⟩], q⟩
/-- a comprehension that changes nothing else -/
theorem ev_lc {gi : M (List D)} {gg : D → Sx → Option Sx} {gt : M Bool} {ge : M D} {vs : List Nat} (b : D → Bool) (f : D → D)
    (h : Ev (gi S) fun ds S1 => (∀ d ∈ ds, Es (gg d ⟨wipeS S1.sl vs, S1.os⟩) fun S2 => wipeS S2.sl vs = wipeS S1.sl vs ∧ S2.os = S1.os ∧ Ev (gt S2) fun c S3 => S3 = S2 ∧ c = b d ∧ (b d = true → Ev (ge S2) fun e S4 => e = f d ∧ S4 = S2)) ∧ Q (.list ((ds.filter b).map f)) S1) : Ev (gLc gi gg gt ge vs S) Q := by
  obtain ⟨ds, ⟨sl1, os1⟩, e1, h1, q⟩ := h
  obtain ⟨sl', e', ht⟩ := turns_pure (gg := gg) (gt := gt) (ge := ge) (b := b) (f := f) ds sl1 rfl fun d hd => by
    obtain ⟨⟨sl2, os2⟩, e2, e3, e4, c, S3, e5, e6, e7, e8⟩ := h1 d hd
    cases e4
    subst e7 e6
    exact ⟨sl2, e2, e3, e5, fun hb => (e8 hb).eq⟩
  refine ⟨_, _, ?_, q⟩
  unfold gLc
  rw [e1]
  simp only [Option.bind_some, ht, backS_same e']
theorem es_name {i : Nat} {d : D} (h : W ⟨S.sl.set i (some (.dat d)), S.os⟩) : Es (sName i d S) W := ⟨_, rfl, h⟩
theorem es_tup2 {i j : Nat} {d e : D} (h : W ⟨(S.sl.set i (some (.dat d))).set j (some (.dat e)), S.os⟩) : Es (sTup 2 (sCons (sName i) (sCons (sName j) sNil)) (.tuple [d, e]) S) W := ⟨_, rfl, h⟩
theorem es_tup3 {i j k : Nat} {d e f : D} (h : W ⟨((S.sl.set i (some (.dat d))).set j (some (.dat e))).set k (some (.dat f)), S.os⟩) : Es (sTup 3 (sCons (sName i) (sCons (sName j) (sCons (sName k) sNil))) (.tuple [d, e, f]) S) W := ⟨_, rfl, h⟩
/-- what goes on after a statement -/
def Then (h : Sx → Option Out) (Z : Out → Prop) : Out → Prop
  | .nx S => Eo (h S) Z
  | .rt d S => Z (.rt d S)
  | .bk S => Z (.bk S)
  | .ct S => Z (.ct S)
  | .ro j S => Z (.ro j S)
  | .rs r S => Z (.rs r S)
theorem eo_seq {g h : Sx → Option Out} (e : Eo (g S) (Then h Z)) : Eo (qSeq g h S) Z := by
  obtain ⟨o, e1, q⟩ := e
  cases o with
  | nx S1 =>
    obtain ⟨o2, e2, q⟩ := q
    exact ⟨o2, by simp only [qSeq, e1, Option.bind_some, e2], q⟩
  | _ => exact ⟨_, by simp only [qSeq, e1, Option.bind_some], q⟩
theorem then_nx' {h : Sx → Option Out} {S1 : Sx} (e : ∃ S2, S1 = S2 ∧ Eo (h S2) Z) : Then h Z (.nx S1) := by obtain ⟨_, rfl, e⟩ := e; exact e
theorem eo_nx (h : Z (.nx S)) : Eo (qNx S) Z := ⟨_, rfl, h⟩
theorem eo_drop {g : M D} (h : Ev (g S) fun _ S1 => Z (.nx S1)) : Eo (qDrop g S) Z := by
  obtain ⟨d, S1, e1, q⟩ := h
  exact ⟨_, by simp only [qDrop, e1, Option.bind_some], q⟩
theorem eo_ret {g : M D} (h : Ev (g S) fun d S1 => Z (.rt d S1)) : Eo (qRet g S) Z := by
  obtain ⟨d, S1, e1, q⟩ := h
  exact ⟨_, by simp only [qRet, e1, Option.bind_some], q⟩
theorem eo_retN (h : Z (.rt .none S)) : Eo (qRetN S) Z := ⟨_, rfl, h⟩
theorem eo_if {t : M Bool} {g k : Sx → Option Out} (h : Ev (t S) fun b S1 => (b = true → Eo (g S1) Z) ∧ (b = false → Eo (k S1) Z)) : Eo (qIf t g k S) Z := by
  obtain ⟨b, S1, e1, h1, h2⟩ := h
  cases b with
  | true =>
    obtain ⟨c, e2, q⟩ := h1 rfl
    exact ⟨_, by simp [qIf, e1, e2], q⟩
  | false =>
    obtain ⟨c, e2, q⟩ := h2 rfl
    exact ⟨_, by simp [qIf, e1, e2], q⟩
theorem eo_set {i : Nat} {g : M D} (h : Ev (g S) fun d S1 => Z (.nx ⟨S1.sl.set i (some (.dat d)), S1.os⟩)) : Eo (qSet i g S) Z := by
  obtain ⟨d, S1, e1, q⟩ := h
  exact ⟨_, by simp only [qSet, e1, Option.bind_some], q⟩
theorem eo_asg {gg : D → Sx → Option Sx} {g : M D} (h : Ev (g S) fun d S1 => Es (gg d S1) fun S2 => Z (.nx S2)) : Eo (qAsg gg g S) Z := by
  obtain ⟨d, S1, e1, S2, e2, q⟩ := h
  exact ⟨_, by simp only [qAsg, e1, e2, Option.bind_some], q⟩
theorem eo_par {i j : Nat} {g : M (List D)} (h : Ev (g S) fun ds S1 => ∃ d e, ds = [d, e] ∧ Z (.nx ⟨(S1.sl.set i (some (.dat d))).set j (some (.dat e)), S1.os⟩)) : Eo (qPar i j g S) Z := by
  obtain ⟨ds, S1, e1, d, e, rfl, q⟩ := h
  exact ⟨_, by simp only [qPar, e1, Option.bind_some], q⟩
theorem eo_own {i : Nat} {g : M D} (h : Ev (g S) fun d S1 => ∃ ds, d = .list ds ∧ Z (.nx ⟨S1.sl.set i (some (.own S1.os.length)), S1.os ++ [some (.lst ds)]⟩)) : Eo (qOwn i g S) Z := by
  obtain ⟨d, S1, e1, ds, rfl, q⟩ := h
  exact ⟨_, by simp only [qOwn, e1, Option.bind_some], q⟩
theorem eo_retO {g : M D} (h : Ev (g S) fun d S1 => ∃ ds, d = .list ds ∧ Z (.ro S1.os.length ⟨S1.sl, S1.os ++ [some (.lst ds)]⟩)) : Eo (qRetO g S) Z := by
  obtain ⟨d, S1, e1, ds, rfl, q⟩ := h
  exact ⟨_, by simp only [qRetO, e1, Option.bind_some], q⟩
theorem eo_for {gi : M (List D)} {gg : D → Sx → Option Sx} {body : Sx → Option Out} (h : Ev (gi S) fun ds S1 => Eo (gLoop gg body ds S1) Z) : Eo (qFor gi gg body S) Z := by
  obtain ⟨ds, S1, e1, o, e2, q⟩ := h
  exact ⟨_, by simp only [qFor, e1, Option.bind_some, e2], q⟩
theorem eo_loop {gg : D → Sx → Option Sx} {body : Sx → Option Out} {ds : List D} (I : Nat → Sx → Prop) (h0 : I 0 S) (hs : ∀ i d S, ds[i]? = some d → I i S → Es (gg d S) fun S1 => Eo (body S1) fun o => ∃ S2, o = .nx S2 ∧ I (i + 1) S2) (hz : ∀ S', I ds.length S' → Z (.nx S')) : Eo (gLoop gg body ds S) Z := by
  obtain ⟨S', e, q⟩ := loop_inv (gg := gg) (body := body) I ds 0 S h0 fun i d S h1 h2 => by
    rw [Nat.zero_add] at h2 ⊢
    obtain ⟨S1, e1, o, e2, S2, rfl, q⟩ := hs i d S h1 h2
    exact ⟨S1, S2, e1, e2, q⟩
  rw [Nat.zero_add] at q
  exact ⟨_, e, hz S' q⟩
end

theorem then_rt {h : Sx → Option Out} {Z : Out → Prop} {d : D} {S : Sx} (q : Z (.rt d S)) : Then h Z (.rt d S) := q
theorem split_t {A B : Prop} {b : Bool} (e : b = true) (h : A) : (b = true → A) ∧ (b = false → B) := ⟨fun _ => h, fun k => by rw [e] at k; cases k⟩
theorem split_f {A B : Prop} {b : Bool} (e : b = false) (h : B) : (b = true → A) ∧ (b = false → B) := ⟨fun k => (by rw [e] at k; cases k), fun _ => h⟩
theorem split_t' {A B : Prop} {b : Bool} (e : b = true) (h : A) : (b = false → B) ∧ (b = true → A) := ⟨fun k => (by rw [e] at k; cases k), fun _ => h⟩
theorem split_f' {A B : Prop} {b : Bool} (e : b = false) (h : B) : (b = false → B) ∧ (b = true → A) := ⟨fun _ => h, fun k => by rw [e] at k; cases k⟩
/-! ### whole defs -/
def Gives (z : D) : Out → Prop
  | .rt d _ => d = z
  | .nx _ => z = .none
  | _ => False
theorem mF_of {n : Nat} {g : Sx → Option Out} {ds : List D} {z : D} (h : Eo (g ⟨initS n ds, []⟩) (Gives z)) : mF n g ds = some z := by
  obtain ⟨o, e, q⟩ := h
  unfold mF
  rw [e]
  cases o with
  | nx S => cases q; rfl
  | rt d S => cases q; rfl
  | _ => exact q.elim
theorem gives_rt {z d : D} {S : Sx} (h : d = z) : Gives z (.rt d S) := h
@[simp] theorem gives_rtI {z d : D} {S : Sx} : Gives z (.rt d S) ↔ d = z := Iff.rfl
theorem gives_nx {S : Sx} : Gives .none (.nx S) := rfl
def GivesO (Q : D → List D → Prop) : Out → Prop
  | .rt d S => ∃ cs, cellOf S 0 = some cs ∧ Q d cs
  | .nx S => ∃ cs, cellOf S 0 = some cs ∧ Q .none cs
  | _ => False
theorem mIO_of {n : Nat} {g : Sx → Option Out} {cs ds : List D} {Q : D → List D → Prop} (h : Eo (g ⟨some (.own 0) :: initS (n - 1) ds, [some (.lst cs)]⟩) (GivesO Q)) : ∃ d cs', mIO n g cs ds = some (d, cs') ∧ Q d cs' := by
  obtain ⟨o, e, q⟩ := h
  unfold mIO
  rw [e]
  cases o with
  | nx S => obtain ⟨cs', e, q⟩ := q; exact ⟨_, cs', by simp [e], q⟩
  | rt d S => obtain ⟨cs', e, q⟩ := q; exact ⟨_, cs', by simp [e], q⟩
  | _ => exact q.elim
theorem ev_IO {sl : List (Option R)} {os : List (Option Cell)} {i n : Nat} {f : List D → List D → Option (D × List D)} {g : M (List D)} {Q : D → Sx → Prop}
    (h : ∃ j, sl[i]? = some (some (.own j)) ∧ Ev (g ⟨sl, os⟩) fun ds S1 => ∃ cs, S1.os[j]? = some (some (.lst cs)) ∧ ds.length = n ∧ ∃ d cs', f cs ds = some (d, cs') ∧ Q d ⟨S1.sl, S1.os.set j (some (.lst cs'))⟩) : Ev (gIO i n f g ⟨sl, os⟩) Q := by
  obtain ⟨j, hi, ds, S1, e1, cs, e2, l, d, cs', e3, q⟩ := h
  exact ⟨d, _, by simp only [gIO, hi, e1, e2, e3, Option.bind_some, if_pos l], q⟩
theorem ev_ixO {sl : List (Option R)} {os : List (Option Cell)} {i : Nat} {gb : M D} {Q : D → Sx → Prop}
    (h : ∃ j cs, sl[i]? = some (some (.own j)) ∧ os[j]? = some (some (.lst cs)) ∧ Ev (gb ⟨sl, os⟩) fun d S1 => ∃ n, d = .int n ∧ S1 = ⟨sl, os⟩ ∧ Ed (L2.atI cs n) fun e => Q e ⟨sl, os⟩) : Ev (gIxO i gb ⟨sl, os⟩) Q := by
  obtain ⟨j, cs, hi, hc, d, S1, e1, n, rfl, rfl, e, e2, q⟩ := h
  exact ⟨e, _, by simp only [gIxO, ownOf, cellOf, hi, hc, e1, e2, Option.bind_some], q⟩
theorem eo_setO {S : Sx} {i : Nat} {gb ge : M D} {Z : Out → Prop} (h : Ev (ge S) fun d S1 => ∃ j cs, S1.sl[i]? = some (some (.own j)) ∧ S1.os[j]? = some (some (.lst cs)) ∧ Ev (gb S1) fun n S2 => S2 = S1 ∧ ∃ k : Nat, n = .int k ∧ k < cs.length ∧ Z (.nx ⟨S1.sl, S1.os.set j (some (.lst (cs.set k d)))⟩)) : Eo (qSetO i gb ge S) Z := by
  obtain ⟨d, S1, e1, j, cs, hi, hc, n, S2, e2, rfl, k, rfl, l, q⟩ := h
  refine ⟨_, ?_, q⟩
  have : L2.ixN cs.length (k : Int) = some k := by
    unfold L2.ixN
    rw [if_pos (by omega), if_pos (by omega)]; simp
  simp only [qSetO, e1, Option.bind_some, ownOf, cellOf, hi, hc, e2, this, setCell]
theorem ev_app {S : Sx} {i : Nat} {ge : M D} {Q : D → Sx → Prop} (hi : ∃ j cs, S.sl[i]? = some (some (.own j)) ∧ S.os[j]? = some (some (.lst cs)) ∧ Ev (ge S) fun d S1 => ∃ cs, S1.os[j]? = some (some (.lst cs)) ∧ cs.length < 16777216 ∧ Q .none ⟨S1.sl, S1.os.set j (some (.lst (cs ++ [d])))⟩) : Ev (gApp i ge S) Q := by
  obtain ⟨j, cs, h1, h2, d, S1, e1, cs1, h3, l, q⟩ := hi
  refine ⟨_, _, ?_, q⟩
  simp only [gApp, ownOf, h1, h2, cellOf, Option.bind_some, e1, h3, line_eq, if_pos l, setCell]
theorem ev_lenO {sl : List (Option R)} {os : List (Option Cell)} {i : Nat} {Q : D → Sx → Prop} (h : ∃ j cs, sl[i]? = some (some (.own j)) ∧ os[j]? = some (some (.lst cs)) ∧ Q (.int cs.length) ⟨sl, os⟩) : Ev (gLenO i ⟨sl, os⟩) Q := by
  obtain ⟨j, cs, hi, hc, h⟩ := h
  exact ⟨_, _, by simp only [gLenO, ownOf, cellOf, hi, hc, Option.bind_some], h⟩
theorem ev_scrSl {sl : List (Option R)} {os : List (Option Cell)} {i : Nat} {gl gh : M (Option Int)} {Q : D → Sx → Prop} (h : ∃ ns, sl[i]? = some (some (.scr ns)) ∧ Ev (gl ⟨sl, os⟩) fun lo S1 => Ev (gh S1) fun hi S2 => Q (.list ((cutL ns lo hi).map .int)) S2) : Ev (gScrSl i gl gh ⟨sl, os⟩) Q := by
  obtain ⟨ns, hi, lo, S1, e1, hi2, S2, e2, h⟩ := h
  exact ⟨_, _, by simp only [gScrSl, scrOf, hi, Option.bind_some, e1, e2], h⟩
theorem ev_scrLen {sl : List (Option R)} {os : List (Option Cell)} {i : Nat} {Q : D → Sx → Prop} (h : ∃ ns : List Int, sl[i]? = some (some (.scr ns)) ∧ Q (.int ns.length) ⟨sl, os⟩) : Ev (gScrLen i ⟨sl, os⟩) Q := by
  obtain ⟨ns, hi, h⟩ := h
  exact ⟨_, _, by simp only [gScrLen, scrOf, hi, Option.bind_some], h⟩
theorem ev_callScr {sl : List (Option R)} {os : List (Option Cell)} {i : Nat} {f : List Int → Option (List D)} {Q : D → Sx → Prop} (h : ∃ ns : List Int, sl[i]? = some (some (.scr ns)) ∧ Ed (f ns) fun z => Q (.list z) ⟨sl, os⟩) : Ev (gCallScr i f ⟨sl, os⟩) Q := by
  obtain ⟨ns, hi, z, e, h⟩ := h
  exact ⟨_, _, by simp only [gCallScr, scrOf, hi, Option.bind_some, e], h⟩
theorem mScrN_of {n : Nat} {g : Sx → Option Out} {ns : List Int} {Q : List D → Prop} (h : Eo (g ⟨some (.scr ns) :: List.replicate (n - 1) none, []⟩) fun o => ∃ j S cs, o = .ro j S ∧ cellOf S j = some cs ∧ Q cs) : ∃ cs, mScrN n g ns = some cs ∧ Q cs := by
  obtain ⟨_, e, j, S, cs, rfl, h, q⟩ := h
  exact ⟨cs, by unfold mScrN; simp only [e, Option.bind_some, h], q⟩
theorem mScr_of {n : Nat} {g : Sx → Option Out} {ns : List Int} {z : D} (h : Eo (g ⟨some (.scr ns) :: List.replicate (n - 1) none, []⟩) fun o => ∃ S, o = .rt z S) : mScr n g ns = some z := by
  obtain ⟨_, e, S, rfl⟩ := h
  unfold mScr; simp only [e, Option.bind_some]

/-! ### operations on data -/
section
variable {Q : D → Prop} {i j : Int} {xs ys : List D}
theorem ed_addI (h : Q (.int (i + j))) : Ed (dAdd (.int i) (.int j)) Q := ⟨_, rfl, h⟩
theorem ed_subI (h : Q (.int (i - j))) : Ed (dSub (.int i) (.int j)) Q := ⟨_, rfl, h⟩
theorem ed_addL (l : xs.length + ys.length ≤ 16777216) (h : Q (.list (xs ++ ys))) : Ed (dAdd (.list xs) (.list ys)) Q := ⟨_, by simp only [dAdd, line_eq, if_pos l], h⟩
theorem ed_mulI (l : L2.CMulW i j) (h : Q (.int (i * j))) : Ed (dMul (.int i) (.int j)) Q := ⟨_, by simp only [dMul, if_pos l], h⟩
theorem ed_divI (l : L2.CDivW i j) (h : Q (.int (i / j))) : Ed (dDiv (.int i) (.int j)) Q := ⟨_, by simp only [dDiv, if_pos l], h⟩
theorem ed_modI (l : 0 < j) (h : Q (.int (i % j))) : Ed (dMod (.int i) (.int j)) Q := ⟨_, by simp only [dMod, if_pos l], h⟩
theorem ed_cmp {p : Int → Int → Bool} (h : Q (.bool (p i j))) : Ed (dCmp p (.int i) (.int j)) Q := ⟨_, rfl, h⟩
theorem ed_eqI (h : Q (.bool (decide (i = j)))) : Ed (dEq (.int i) (.int j)) Q := ⟨_, dEq_int i j, h⟩
theorem ed_neI (h : Q (.bool (!decide (i = j)))) : Ed (dNe (.int i) (.int j)) Q := ⟨_, dNe_int i j, h⟩
theorem ed_ixT {d : D} (h0 : 0 ≤ i) (e : xs[i.toNat]? = some d) (h : Q d) : Ed (dIx (.tuple xs) (.int i)) Q := ⟨d, by
  have hl := (List.getElem?_eq_some_iff.mp e).1
  show L2.atI xs i = _
  rw [atI_ok h0 (by omega), e], h⟩
theorem ed_ixL {d : D} (h0 : 0 ≤ i) (e : xs[i.toNat]? = some d) (h : Q d) : Ed (dIx (.list xs) (.int i)) Q := ⟨d, by
  have hl := (List.getElem?_eq_some_iff.mp e).1
  show L2.atI xs i = _
  rw [atI_ok h0 (by omega), e], h⟩
theorem ed_at {d : D} {Q : D → Prop} (h0 : 0 ≤ i) (e : xs[i.toNat]? = some d) (h : Q d) : Ed (L2.atI xs i) Q := ed_ixT h0 e h
theorem ed_slT {lo hi : Option Int} (h : Q (.tuple (cutL xs lo hi))) : Ed (dSl (.tuple xs) lo hi) Q := ⟨_, rfl, h⟩
theorem ed_slL {lo hi : Option Int} (h : Q (.list (cutL xs lo hi))) : Ed (dSl (.list xs) lo hi) Q := ⟨_, rfl, h⟩
theorem ed_lenT (h : Q (.int xs.length)) : Ed (dLen [.tuple xs]) Q := ⟨_, rfl, h⟩
theorem ed_lenL (h : Q (.int xs.length)) : Ed (dLen [.list xs]) Q := ⟨_, rfl, h⟩
theorem ed_lenS {x : Str} (h : Q (.int x.length)) : Ed (dLen [.str x]) Q := ⟨_, rfl, h⟩
theorem ed_inS {c : Nat} {y : Str} (h : Q (.bool (decide (c ∈ y.cps.toList)))) : Ed (dIn (.str ⟨#[c]⟩) (.str y)) Q := ⟨_, by simp only [dIn]; rw [PySem.StrLaws.found_one], h⟩
theorem ed_powI (l : L2.CPow i j) (h : Q (.int (i ^ j.toNat))) : Ed (dPow (.int i) (.int j)) Q := ⟨_, by simp only [dPow, if_pos l], h⟩
theorem ed_neg (h : Q (.int (-i))) : Ed (dNeg (.int i)) Q := ⟨_, rfl, h⟩
theorem ed_max (h : Q (.int (max i j))) : Ed (dMax2 [.int i, .int j]) Q := ⟨_, rfl, by
  have : (if j > i then j else i) = max i j := by split <;> omega
  rw [this]; exact h⟩
theorem ed_min (h : Q (.int (min i j))) : Ed (dMin2 [.int i, .int j]) Q := ⟨_, rfl, by
  have : (if j < i then j else i) = min i j := by split <;> omega
  rw [this]; exact h⟩
theorem ed_intB {b : Bool} (h : Q (.int (if b then 1 else 0))) : Ed (dInt [.bool b]) Q := ⟨_, rfl, h⟩
theorem ed_ixS {x : Str} {c : Nat} (h0 : 0 ≤ i) (e : x.cps.toList[i.toNat]? = some c) (h : Q (ch c)) : Ed (dIx (.str x) (.int i)) Q := ⟨_, by
  have hl := (List.getElem?_eq_some_iff.mp e).1
  show (L2.atI x.cps.toList i).bind _ = _
  rw [atI_ok h0 (by omega), e]; rfl, h⟩
theorem ed_itT {Q : List D → Prop} (h : Q xs) : Ed (itemsOf (.tuple xs)) Q := ⟨_, rfl, h⟩
theorem ed_itL {Q : List D → Prop} (h : Q xs) : Ed (itemsOf (.list xs)) Q := ⟨_, rfl, h⟩
theorem ed_tupL (h : Q (.tuple xs)) : Ed (dTuple [.list xs]) Q := ⟨_, rfl, h⟩
theorem ed_tupT (h : Q (.tuple xs)) : Ed (dTuple [.tuple xs]) Q := ⟨_, rfl, h⟩
theorem ed_listL (h : Q (.list xs)) : Ed (dList [.list xs]) Q := ⟨_, rfl, h⟩
theorem ed_listT (h : Q (.list xs)) : Ed (dList [.tuple xs]) Q := ⟨_, rfl, h⟩
end
theorem allBools_fn {α : Type} (f : α → Bool) : ∀ xs : List α, allBools (xs.map fun a => .bool (f a)) = some (xs.map f)
  | [] => rfl
  | a :: xs => by simp [allBools, allBools_fn f xs]
theorem all_map {α : Type} (f : α → Bool) (xs : List α) : dAll [.list (xs.map fun a => .bool (f a))] = some (.bool (xs.all f)) := by
  simp only [dAll, allBools_fn, Option.bind_some]; rw [List.all_map]; rfl
theorem cut_to {α : Type} {xs : List α} {i : Int} (h : 0 ≤ i) : cutL xs none (some i) = xs.take i.toNat := by
  unfold cutL HT.sIx
  simp only [if_neg (show ¬ i < 0 by omega), List.drop_zero, Nat.sub_zero]
  rw [← List.take_take]
  simp [Nat.min_def]
theorem cut_from {α : Type} {xs : List α} {i : Int} (h : 0 ≤ i) : cutL xs (some i) none = xs.drop i.toNat := by
  unfold cutL HT.sIx
  simp only [if_neg (show ¬ i < 0 by omega)]
  by_cases l : i.toNat ≤ xs.length
  · rw [Nat.min_eq_left l, List.take_of_length_le (by simp)]
  · rw [Nat.min_eq_right (by omega), List.drop_of_length_le (Nat.le_refl _), List.drop_of_length_le (by omega), List.take_nil]
/-! ### comprehensions of two clauses -/
theorem ev_varO {sl : List (Option R)} {os : List (Option Cell)} {i : Nat} {Q : D → Sx → Prop} (h : ∃ j cs, sl[i]? = some (some (.own j)) ∧ os[j]? = some (some (.lst cs)) ∧ Q (.list cs) ⟨sl.set i (some (.dat (.list cs))), os.set j none⟩) : Ev (gVar i ⟨sl, os⟩) Q := by
  obtain ⟨j, cs, e1, e2, h⟩ := h
  exact ⟨_, _, by unfold gVar; simp only [e1, e2], h⟩
theorem ed_pick {Q P : D → Prop} {xs : List D} {i : Int} (h0 : 0 ≤ i) (h1 : i < xs.length) (hp : ∀ x ∈ xs, P x) (h : ∀ x, P x → Q x) : Ed (dIx (.list xs) (.int i)) Q := by
  have hl : i.toNat < xs.length := by omega
  exact ed_ixL h0 (List.getElem?_eq_getElem hl) (h _ (hp _ (List.getElem_mem hl)))
theorem ed_pickS {Q : D → Prop} {P : Nat → Prop} {x : Str} {i : Int} (h0 : 0 ≤ i) (h1 : i < x.length) (hp : ∀ c ∈ x.cps.toList, P c) (h : ∀ c, P c → Q (ch c)) : Ed (dIx (.str x) (.int i)) Q := by
  have hl : i.toNat < x.cps.toList.length := by
    have : x.cps.toList.length = x.length := Array.length_toList
    omega
  exact ed_ixS h0 (List.getElem?_eq_getElem hl) (h _ (hp _ (List.getElem_mem hl)))
theorem ed_ne_self {Q : D → Prop} {d e : D} {n : Nat} (x : d = e) (g : Good n d) (q : Q (.bool false)) (l : n ≤ 64 := by decide) : Ed (dNe d e) Q := by
  subst x
  exact Ed.of (dNe_self (g.shaped l)) q
open Classical in
open Classical in
theorem ed_eq_good {Q : D → Prop} {d e : D} {m n : Nat} (g : Good m d) (k : Good n e) (q1 : d = e → Q (.bool true)) (q2 : d ≠ e → Q (.bool false)) (l1 : m ≤ 64 := by decide) (l2 : n ≤ 64 := by decide) : Ed (dEq d e) Q := by
  refine Ed.of (dEq_good g k l1 l2) ?_
  by_cases x : d = e
  · rw [decide_eq_true x]; exact q1 x
  · rw [decide_eq_false x]; exact q2 x
/-! ### comprehensions whose item changes the lists -/
theorem turns_io {gg : D → Sx → Option Sx} {ge : M D} {vs : List Nat} {w : List (Option R)} (J : Nat → List (Option Cell) → Prop) (P : Nat → D → Prop) :
    ∀ (ds : List D) (n : Nat) (sl : List (Option R)) (os : List (Option Cell)), wipeS sl vs = w → J n os → (∀ i d os, ds[i]? = some d → J (n + i) os → ∃ S1, gg d ⟨w, os⟩ = some S1 ∧ ∃ e S2, ge S1 = some (e, S2) ∧ wipeS S2.sl vs = w ∧ P (n + i) e ∧ J (n + i + 1) S2.os) →
      ∃ es sl' os', wipeS sl' vs = w ∧ gTurns gg gYes ge vs ds ⟨sl, os⟩ = some (es, ⟨sl', os'⟩) ∧ es.length = ds.length ∧ (∀ i e, es[i]? = some e → P (n + i) e) ∧ J (n + ds.length) os'
  | [], n, sl, os, e, h0, _ => ⟨[], sl, os, e, rfl, rfl, fun i e h => by simp at h, h0⟩
  | d :: ds, n, sl, os, e, h0, h => by
    obtain ⟨S1, h1, x, ⟨sl2, os2⟩, h2, h3, h4, h5⟩ := h 0 d os rfl h0
    obtain ⟨es, sl', os', e1, e2, e3, e4, e5⟩ := turns_io J P ds (n + 1) sl2 os2 h3 h5 fun i y os hy hj => by
      have := h (i + 1) y os (by simpa using hy) (by rwa [show n + (i + 1) = n + 1 + i by omega])
      rwa [show n + (i + 1) = n + 1 + i by omega] at this
    refine ⟨x :: es, sl', os', e1, ?_, by simp [e3], ?_, by rwa [show n + (d :: ds).length = n + 1 + ds.length by simp; omega]⟩
    · rw [gTurns]
      simp only [e, h1, Option.bind_some, gYes, h2, e2, if_true]
    · intro i y hy
      cases i with
      | zero => simp at hy; subst hy; exact h4
      | succ i => 
        have := e4 i y (by simpa using hy)
        rwa [show n + 1 + i = n + (i + 1) by omega] at this
theorem ev_lcIO {S : Sx} {Q : D → Sx → Prop} {gi : M (List D)} {gg : D → Sx → Option Sx} {ge : M D} {vs : List Nat} (J : Nat → List (Option Cell) → Prop) (P : Nat → D → Prop)
    (h : Ev (gi S) fun ds S1 => J 0 S1.os ∧ (∀ i d os, ds[i]? = some d → J i os → Es (gg d ⟨wipeS S1.sl vs, os⟩) fun S2 => Ev (ge S2) fun e S4 => wipeS S4.sl vs = wipeS S1.sl vs ∧ P i e ∧ J (i + 1) S4.os) ∧
      (∀ es os, es.length = ds.length → (∀ i e, es[i]? = some e → P i e) → J ds.length os → Q (.list es) ⟨S1.sl, os⟩)) : Ev (gLc gi gg gYes ge vs S) Q := by
  obtain ⟨ds, ⟨sl1, os1⟩, e1, h0, h1, q⟩ := h
  obtain ⟨es, sl', os', e', ht, e2, e3, e4⟩ := turns_io (gg := gg) (ge := ge) (vs := vs) J P ds 0 sl1 os1 rfl h0 fun i d os hd hj => by
    rw [Nat.zero_add] at hj ⊢
    obtain ⟨S2, h2, e, S4, h4, h5⟩ := h1 i d os hd hj
    exact ⟨S2, h2, e, S4, h4, h5⟩
  refine ⟨_, _, ?_, q es os' e2 (fun i e h => by have := e3 i e h; rwa [Nat.zero_add] at this) (by rwa [Nat.zero_add] at e4)⟩
  unfold gLc
  rw [e1]
  simp only [Option.bind_some, ht, backS_same e']
theorem ev_zip {S : Sx} {L : List D → Sx → Prop} {g : M (List D)} (h : Ev (g S) fun ds S1 => (∃ xs ys, ds = [.list xs, .list ys] ∧ L (zipD xs ys) S1) ∨ (∃ xs ys, ds = [.tuple xs, .tuple ys] ∧ L (zipD xs ys) S1)) : Ev (gZip g S) L := by
  obtain ⟨ds, S1, e1, h⟩ := h
  rcases h with ⟨xs, ys, rfl, h⟩ | ⟨xs, ys, rfl, h⟩
  · exact ⟨_, _, by simp only [gZip, e1, Option.bind_some], h⟩
  · exact ⟨_, _, by simp only [gZip, e1, Option.bind_some], h⟩
theorem zipD_map {α β : Type} (f : α → D) (g : β → D) : ∀ (xs : List α) (ys : List β), zipD (xs.map f) (ys.map g) = (xs.zip ys).map fun p => .tuple [f p.1, g p.2]
  | [], _ => rfl
  | _ :: _, [] => rfl
  | x :: xs, y :: ys => by
    rw [List.map_cons, List.map_cons, zipD, zipD_map f g xs ys]; rfl
/-! ### how many unlike ones -/
theorem dedup_len : ∀ (l acc : List Int), acc.Nodup → (l.foldl PyProof.Rows.step_dedup acc).length ≤ acc.length + l.length ∧ ((l.foldl PyProof.Rows.step_dedup acc).length = acc.length + l.length ↔ (acc ++ l).Nodup)
  | [], acc, h => by simp [h]
  | x :: l, acc, h => by
    simp only [List.foldl_cons, PyProof.Rows.step_dedup]
    by_cases hx : acc.any (· == x) = true
    · rw [if_pos hx]
      obtain ⟨h1, h2⟩ := dedup_len l acc h
      refine ⟨by simp only [List.length_cons]; omega, ⟨fun e => ?_, fun e => ?_⟩⟩
      · simp only [List.length_cons] at e; omega
      · exfalso
        obtain ⟨y, hy, e2⟩ := List.any_eq_true.mp hx
        have e2 : y = x := by simpa using e2
        subst e2
        exact (List.nodup_append.mp e).2.2 y hy y List.mem_cons_self rfl
    · rw [if_neg hx]
      have hm : x ∉ acc := fun z => hx (List.any_eq_true.mpr ⟨x, z, by simp⟩)
      have hn : (acc ++ [x]).Nodup := by
        rw [List.nodup_append]
        exact ⟨h, by simp, fun a ha b hb => by rw [List.mem_singleton.mp hb]; exact fun e => hm (e ▸ ha)⟩
      obtain ⟨h1, h2⟩ := dedup_len l (acc ++ [x]) hn
      simp only [List.length_append, List.length_cons, List.length_nil, List.append_assoc, List.cons_append, List.nil_append] at h1 h2 ⊢
      refine ⟨by omega, ?_⟩
      rw [← h2]
      constructor <;> intro e <;> omega
theorem unlike_iff {ns : List Int} : unlike ns = ns.length ↔ ns.Nodup := by
  have e : (List.range ns.length).map (fun i => ns.getD i 0) = ns := by
    apply List.ext_getElem?
    intro i
    rw [List.getElem?_map]
    by_cases h : i < ns.length
    · rw [List.getElem?_range h]
      simp [List.getD_eq_getElem?_getD, h]
    · rw [List.getElem?_eq_none (by simpa using h), List.getElem?_eq_none (by omega)]; rfl
  unfold unlike PyProof.Rows.firstMet
  rw [e]
  have := (dedup_len ns [] (by simp)).2
  simpa using this
theorem ed_lenSet {Q : D → Prop} {ns : List Int} (l : ns.length ≤ 4000) (h : Q (.int (unlike ns : Nat))) : Ed (dLenSet (.list (ns.map .int))) Q := ⟨_, by simp only [dLenSet, allInts_of, Option.bind_some, if_pos l], h⟩
theorem ed_rev {Q : D → Prop} {xs : List D} (h : Q (.list xs.reverse)) : Ed (dRevL (.list xs)) Q := ⟨_, rfl, h⟩
theorem ev_listRng1 {S : Sx} {Q : D → Sx → Prop} {g : M D} (h : Ev (g S) fun d S1 => ∃ n : Int, d = .int n ∧ -4611686018427387904 ≤ n ∧ n ≤ 16777216 ∧ Q (.list (rng 0 n.toNat)) S1) : Ev (gListRng1 g S) Q := by
  obtain ⟨ds, S1, e1, n, rfl, l1, l2, q⟩ := h
  exact ⟨_, S1, by simp only [gListRng1, e1, Option.bind_some]; rw [if_pos ⟨by omega, by omega⟩], q⟩
theorem ev_OL {sl : List (Option R)} {os : List (Option Cell)} {i : Nat} {f : D → D → Option D} {gb : M D} {Q : D → Sx → Prop} (h : ∃ j cs0, sl[i]? = some (some (.own j)) ∧ os[j]? = some (some (.lst cs0)) ∧ Ev (gb ⟨sl, os⟩) fun d S1 => ∃ cs, S1.os[j]? = some (some (.lst cs)) ∧ Ed (f (.list cs) d) fun z => ∃ b, z = .bool b ∧ Q (.bool b) S1) : Ev (gOL f i gb ⟨sl, os⟩) Q := by
  obtain ⟨j, cs0, h1, h2, d, S1, e1, cs, h3, z, e2, b, rfl, q⟩ := h
  exact ⟨_, _, by simp only [gOL, ownOf, cellOf, h1, h2, e1, h3, e2, Option.bind_some], q⟩
theorem ev_OR {S : Sx} {i : Nat} {f : D → D → Option D} {gb : M D} {Q : D → Sx → Prop} (h : Ev (gb S) fun d S1 => ∃ j cs, S1.sl[i]? = some (some (.own j)) ∧ S1.os[j]? = some (some (.lst cs)) ∧ Ed (f d (.list cs)) fun z => ∃ b, z = .bool b ∧ Q (.bool b) S1) : Ev (gOR f gb i S) Q := by
  obtain ⟨d, S1, e1, j, cs, h1, h2, z, e2, b, rfl, q⟩ := h
  exact ⟨_, _, by simp only [gOR, ownOf, cellOf, h1, h2, e1, e2, Option.bind_some], q⟩
theorem ev_popAt {S : Sx} {i : Nat} {ge : M D} {Q : D → Sx → Prop} (hi : ∃ j cs0, S.sl[i]? = some (some (.own j)) ∧ S.os[j]? = some (some (.lst cs0)) ∧ Ev (ge S) fun d S1 => ∃ cs n, S1.os[j]? = some (some (.lst cs)) ∧ d = .int n ∧ 0 ≤ n ∧ ∃ e, cs[n.toNat]? = some e ∧ Q e ⟨S1.sl, S1.os.set j (some (.lst (cs.eraseIdx n.toNat)))⟩) : Ev (gPopAt i ge S) Q := by
  obtain ⟨j, cs0, h1, h2, d, S1, e1, cs, n, h3, rfl, n0, e, he, q⟩ := hi
  have hl := (List.getElem?_eq_some_iff.mp he).1
  refine ⟨e, _, ?_, q⟩
  simp only [gPopAt, ownOf, cellOf, h1, h2, e1, h3, Option.bind_some, setCell]
  rw [if_pos ⟨n0, by omega⟩, he]; rfl
theorem ev_rep {S : Sx} {f : D → D → Option D} {ga gb : M D} {Q : D → Sx → Prop} (h : Ev (gBin f ga gb S) fun d S1 => ∃ ds, d = .list ds ∧ Q (.list ds) S1) : Ev (gRep f ga gb S) Q := by
  obtain ⟨d, S1, e1, ds, rfl, q⟩ := h
  exact ⟨_, _, by simp only [gRep, e1, Option.bind_some], q⟩
theorem ed_mulL {Q : D → Prop} {xs : List D} {k : Int} (k0 : 0 ≤ k) (k1 : k ≤ 16777216) (l : xs.length * k.toNat ≤ 16777216) (h : Q (.list (List.replicate k.toNat xs).flatten)) : Ed (dMul (.list xs) (.int k)) Q := ⟨_, by
  simp only [dMul, line_eq]
  rw [if_pos ⟨by omega, by omega, l⟩], h⟩
theorem rep_one (d : D) : ∀ n : Nat, (List.replicate n [d]).flatten = List.replicate n d
  | 0 => rfl
  | n + 1 => by rw [List.replicate_succ, List.replicate_succ, List.flatten_cons, rep_one d n]; rfl
theorem ed_atLast {xs : List D} {d : D} {Q : D → Prop} (e : xs.getLast? = some d) (q : Q d) : Ed (L2.atI xs (-1)) Q := by
  refine ⟨d, ?_, q⟩
  have h0 : 0 < xs.length := by
    cases xs with
    | nil => simp at e
    | cons x xs => simp
  unfold L2.atI L2.ixN
  rw [if_neg (by decide), if_pos (by omega)]
  show xs[((-1 : Int) + (xs.length : Int)).toNat]? = _
  rw [show ((-1 : Int) + (xs.length : Int)).toNat = xs.length - 1 by omega, ← List.getLast?_eq_getElem?]
  exact e
end Fu

set_option maxHeartbeats 16000000
namespace Lw
open PySem PySem.Spec PyProof.Rows L2 RZ Fu
def g_is_whole : Sx → Option Out :=
  (qRet (gAndV (gIsi "int" (gVar 0)) (gAndV (gNotV (gIsi "bool" (gVar 0))) (gBin dGe (gVar 0) (gC (.int 0))))))
def m_is_whole := mF 1 g_is_whole
def g_is_row : Sx → Option Out :=
  (qRet (gAndV (gIsi2 "list" "tuple" (gVar 0)) (gBin dEq (gCall dLen (gCons (gVar 0) gNil)) (gVar 1))))
def m_is_row := mF 2 g_is_row
def g_place_of : Sx → Option Out :=
  (qRet (gBin dIx (gBin dIx (gBin dIx (gVar 0) (gC (.int 1))) (gBin dIx (gVar 1) (gC (.int 0)))) (gBin dIx (gVar 1) (gC (.int 1)))))
def m_place_of := mF 2 g_place_of
def g_is_end : Sx → Option Out :=
  (qSeq (qIf (gOr (gNot (gB (gCallF 2 m_is_row (gCons (gVar 1) (gCons (gC (.int 2)) gNil))))) (gOr (gNot (gB (gCallF 1 m_is_whole (gCons (gBin dIx (gVar 1) (gC (.int 0))) gNil)))) (gNot (gB (gCallF 1 m_is_whole (gCons (gBin dIx (gVar 1) (gC (.int 1))) gNil)))))) (qRet (gC (.bool false))) qNx) (qRet (gAndV (gBin dLt (gBin dIx (gVar 1) (gC (.int 0))) (gCall dLen (gCons (gBin dIx (gVar 0) (gC (.int 1))) gNil))) (gBin dLt (gBin dIx (gVar 1) (gC (.int 1))) (gC (.int 2))))))
def m_is_end := mF 2 g_is_end
def g_company_of : Sx → Option Out :=
  (qRet (gBin dIx (gBin dIx (gBin dIx (gVar 0) (gC (.int 1))) (gBin dIx (gVar 1) (gC (.int 0)))) (gC (.int 2))))
def m_company_of := mF 2 g_company_of
def g__law_spring : Sx → Option Out :=
  (qSeq (qSet 1 (gC (.int 0))) (qSeq (qSet 2 (gC (.int 88651))) (qSeq (qFor (gItems (gScrSl 0 gNo (gSo (gC (.int 63))))) (sName 3) (qSeq (qIf (gB (gBin dGe (gCall dAbs (gCons (gVar 3) gNil)) (gBin dPow (gC (.int 10)) (gC (.int 18))))) (qSet 1 (gBin dAdd (gBin dMul (gVar 1) (gBin dPow (gC (.int 10)) (gC (.int 60)))) (gBin dMod (gCall dAbs (gCons (gVar 3) gNil)) (gBin dPow (gC (.int 10)) (gC (.int 60)))))) qNx) (qSet 2 (gBin dMod (gBin dAdd (gBin dAdd (gBin dMul (gVar 2) (gC (.int 69069))) (gBin dMod (gVar 3) (gC (.int 2305843009213693921)))) (gC (.int 7))) (gC (.int 2305843009213693951)))))) (qRetO (gLst (gCons (gVar 1) (gCons (gVar 2) (gCons (gC (.int 0)) gNil))))))))
def m__law_spring := mScrN 4 g__law_spring
def g__law_draw_k15 : Sx → Option Out :=
  (qSeq (qIf (gB (gBin dGt (gIxO 0 (gC (.int 0))) (gC (.int 0)))) (qSeq (qSet 2 (gBin dMod (gIxO 0 (gC (.int 0))) (gVar 1))) (qSeq (qSetO 0 (gC (.int 0)) (gBin dDiv (gIxO 0 (gC (.int 0))) (gVar 1))) (qRet (gVar 2)))) qNx) (qSeq (qSetO 0 (gC (.int 2)) (gBin dAdd (gIxO 0 (gC (.int 2))) (gC (.int 1)))) (qSeq (qSet 3 (gBin dMod (gBin dMul (gIxO 0 (gC (.int 1))) (gIxO 0 (gC (.int 1)))) (gC (.int 2305843009213693951)))) (qSeq (qSetO 0 (gC (.int 1)) (gBin dMod (gBin dAdd (gBin dAdd (gVar 3) (gBin dMul (gBin dMul (gC (.int 7919)) (gIxO 0 (gC (.int 2)))) (gIxO 0 (gC (.int 1))))) (gC (.int 104729))) (gC (.int 2305843009213693951)))) (qRet (gBin dMod (gBin dDiv (gIxO 0 (gC (.int 1))) (gC (.int 65537))) (gVar 1)))))))
def m__law_draw_k15 := mIO 4 g__law_draw_k15
def g__law_circle : Sx → Option Out :=
  (qSeq (qSet 4 (gLc (gRng1 (gCons (gVar 1) gNil)) (sName 6) gYes (gIO 0 1 m__law_draw_k15 (gCons (gVar 2) gNil)) [6])) (qSeq (qOwn 5 (gLst gNil)) (qSeq (qFor (gRng1 (gCons (gVar 1) gNil)) (sName 6) (qSeq (qSet 7 (gLc (gItems (gC (.str "abcd"))) (sName 14) (gOr (gB (gOL dEq 5 (gLst gNil))) (gB (gBin dNe (gVar 14) (gIxO 5 (gUn dNeg (gC (.int 1))))))) (gVar 14) [14])) (qSeq (qIf (gB (gBin dEq (gVar 6) (gBin dSub (gVar 1) (gC (.int 1))))) (qSet 7 (gLc (gItems (gVar 7)) (sName 14) (gB (gBin dNe (gVar 14) (gIxO 5 (gC (.int 0))))) (gVar 14) [14])) qNx) (qDrop (gApp 5 (gBin dIx (gVar 7) (gIO 0 1 m__law_draw_k15 (gCons (gCall dLen (gCons (gVar 7) gNil)) gNil)))))))) (qSeq (qOwn 8 (gListRng1 (gVar 1))) (qSeq (qOwn 9 (gRep dMul (gLst (gCons (gC .none) gNil)) (gVar 1))) (qSeq (qOwn 10 (gLst gNil)) (qSeq (qFor (gRng1 (gCons (gVar 1) gNil)) (sName 6) (qSeq (qSet 11 (gPopAt 8 (gIO 0 1 m__law_draw_k15 (gCons (gLenO 8) gNil)))) (qSeq (qSet 12 (gIO 0 1 m__law_draw_k15 (gCons (gC (.int 2)) gNil))) (qSeq (qSet 13 (gLst (gCons (gBin dIx (gVar 4) (gVar 6)) (gCons (gBin dIx (gVar 4) (gBin dMod (gBin dAdd (gVar 6) (gC (.int 1))) (gVar 1))) gNil)))) (qSeq (qSetO 9 (gVar 11) (gTup (gCons (gBin dIx (gVar 13) (gVar 12)) (gCons (gBin dIx (gVar 13) (gBin dSub (gC (.int 1)) (gVar 12))) (gCons (gIxO 5 (gVar 6)) gNil))))) (qDrop (gApp 10 (gTup (gCons (gBin dAdd (gVar 3) (gVar 11)) (gCons (gVar 12) gNil)))))))))) (qRet (gTup (gCons (gVar 9) (gCons (gVar 10) gNil)))))))))))
def m__law_circle := mIO 15 g__law_circle
def g__law_planted : Sx → Option Out :=
  (qSeq (qSet 2 (gBin dAdd (gC (.int 1)) (gIO 0 1 m__law_draw_k15 (gCons (gBin dIx (gLst (gCons (gC (.int 2)) (gCons (gC (.int 5)) (gCons (gC (.int 20)) gNil)))) (gIO 0 1 m__law_draw_k15 (gCons (gC (.int 3)) gNil))) gNil)))) (qSeq (qAsg (sTup 2 (sCons (sName 3) (sCons (sName 4) sNil))) (gIO 0 3 m__law_circle (gCons (gBin dAdd (gC (.int 2)) (gIO 0 1 m__law_draw_k15 (gCons (gBin dSub (gVar 1) (gC (.int 1))) gNil))) (gCons (gVar 2) (gCons (gC (.int 0)) gNil))))) (qSeq (qSet 5 (gLc (gRng1 (gCons (gIO 0 1 m__law_draw_k15 (gCons (gC (.int 7)) gNil)) gNil)) (sName 6) gYes (gTup (gCons (gIO 0 1 m__law_draw_k15 (gCons (gVar 2) gNil)) (gCons (gIO 0 1 m__law_draw_k15 (gCons (gVar 2) gNil)) (gCons (gBin dIx (gC (.str "abcz")) (gIO 0 1 m__law_draw_k15 (gCons (gC (.int 4)) gNil))) gNil)))) [6])) (qRet (gTup (gCons (gTup (gCons (gVar 2) (gCons (gCall dTuple (gCons (gBin dAdd (gVar 3) (gVar 5)) gNil)) gNil))) (gCons (gVar 4) gNil)))))))
def m__law_planted := mIO 7 g__law_planted
def g__law_other : Sx → Option Out :=
  (qRet (gTup (gCons (gBin dIx (gVar 0) (gC (.int 0))) (gCons (gBin dSub (gC (.int 1)) (gBin dIx (gVar 0) (gC (.int 1)))) gNil))))
def m__law_other := mF 1 g__law_other
def g__law_lists (self : List D → Option D) : Sx → Option Out :=
  (qRet (gIf (gB (gIsi2 "list" "tuple" (gVar 0))) (gLc (gItems (gVar 0)) (sName 1) gYes (gCallF 1 self (gCons (gVar 1) gNil)) [1]) (gVar 0)))
def m__law_lists : Nat → List D → Option D
  | 0 => fun _ => none
  | n + 1 => mF 2 (g__law_lists (m__law_lists n))
def g__law_handed : Sx → Option Out :=
  (qRet (gIf (gB (gBin dGt (gIO 0 1 m__law_draw_k15 (gCons (gC (.int 3)) gNil)) (gC (.int 0)))) (gVar 1) (gCallF 1 (m__law_lists 8) (gCons (gVar 1) gNil))))
def m__law_handed := mIO 2 g__law_handed
def g_far_end : Sx → Option Out :=
  (qRet (gTup (gCons (gBin dIx (gVar 0) (gC (.int 0))) (gCons (gBin dSub (gC (.int 1)) (gBin dIx (gVar 0) (gC (.int 1)))) gNil))))
def m_far_end := mF 1 g_far_end
def g_can_go_on : Sx → Option Out :=
  (qSeq (qIf (gB (gBin dNe (gCallF 2 m_place_of (gCons (gVar 0) (gCons (gCallF 1 m_far_end (gCons (gVar 1) gNil)) gNil))) (gCallF 2 m_place_of (gCons (gVar 0) (gCons (gVar 2) gNil))))) (qRet (gC (.bool false))) qNx) (qRet (gBin dNe (gCallF 2 m_company_of (gCons (gVar 0) (gCons (gVar 1) gNil))) (gCallF 2 m_company_of (gCons (gVar 0) (gCons (gVar 2) gNil))))))
def m_can_go_on := mF 3 g_can_go_on
def g_ride_is : Sx → Option Out :=
  (qSeq (qIf (gOr (gNot (gB (gIsi2 "list" "tuple" (gVar 1)))) (gOr (gB (gBin dEq (gCall dLen (gCons (gVar 1) gNil)) (gC (.int 0)))) (gNot (gB (gCall dAll (gCons (gLc (gItems (gVar 1)) (sName 2) gYes (gCallF 2 m_is_end (gCons (gVar 0) (gCons (gVar 2) gNil))) [2]) gNil)))))) (qRet (gC (.bool false))) qNx) (qSeq (qIf (gB (gBin dNe (gUn dLenSet (gLc (gItems (gVar 1)) (sName 2) gYes (gBin dIx (gVar 2) (gC (.int 0))) [2])) (gCall dLen (gCons (gVar 1) gNil)))) (qRet (gC (.bool false))) qNx) (qRet (gCall dAll (gCons (gLc (gZip (gCons (gVar 1) (gCons (gSl (gVar 1) (gSo (gC (.int 1))) gNo) gNil))) (sTup 2 (sCons (sName 2) (sCons (sName 3) sNil))) gYes (gCallF 3 m_can_go_on (gCons (gVar 0) (gCons (gVar 2) (gCons (gVar 3) gNil)))) [2, 3]) gNil)))))
def m_ride_is := mF 4 g_ride_is
def g_round_is : Sx → Option Out :=
  (qRet (gAndV (gCallF 2 m_ride_is (gCons (gVar 0) (gCons (gVar 1) gNil))) (gCallF 3 m_can_go_on (gCons (gVar 0) (gCons (gBin dIx (gVar 1) (gUn dNeg (gC (.int 1)))) (gCons (gBin dIx (gVar 1) (gC (.int 0))) gNil))))))
def m_round_is := mF 2 g_round_is
def g_need_round : Sx → Option Out :=
  (qSeq (qIf (gNot (gB (gCallF 2 m_round_is (gCons (gVar 0) (gCons (gVar 1) gNil))))) qNone qNx) (qRet (gLc (gItems (gVar 1)) (sName 2) gYes (gCall dTuple (gCons (gVar 2) gNil)) [2])))
def m_need_round := mF 3 g_need_round
def g_begun_at_N : Sx → Option Out :=
  (qSeq (qSet 3 (gCallF 2 m_need_round (gCons (gVar 0) (gCons (gVar 1) gNil)))) (qSeq (qIf (gOr (gNot (gB (gCallF 1 m_is_whole (gCons (gVar 2) gNil)))) (gB (gBin dGe (gVar 2) (gCall dLen (gCons (gVar 3) gNil))))) qNone qNx) (qRetO (gRep dAdd (gSl (gVar 3) (gSo (gVar 2)) gNo) (gSl (gVar 3) gNo (gSo (gVar 2)))))))
def m_begun_at_N := mN 4 g_begun_at_N
def g_faced_about : Sx → Option Out :=
  (qRet (gLc (gItems (gUn dRevL (gVar 0))) (sName 1) gYes (gCallF 1 m_far_end (gCons (gVar 1) gNil)) [1]))
def m_faced_about := mF 2 g_faced_about
def g_all_ways_LL : Sx → Option Out :=
  (qSeq (qSetR 1 rNil) (qSeq (qFor (gItems (gTup (gCons (gVar 0) (gCons (gCallF 1 m_faced_about (gCons (gVar 0) gNil)) gNil)))) (sName 2) (qDrop (gExtLR 1 (rLc (gRng1 (gCons (gCall dLen (gCons (gVar 2) gNil)) gNil)) (sName 3) gYes (rNew (gRep dAdd (gSl (gVar 2) (gSo (gVar 3)) gNo) (gSl (gVar 2) gNo (gSo (gVar 3))))) [3])))) (qRetLR 1)))
def m_all_ways_LL := mLL 4 g_all_ways_LL
def g_least_round_N : Sx → Option Out :=
  (qRetO (gMinLL 1 m_all_ways_LL (gCons (gCallF 2 m_need_round (gCons (gVar 0) (gCons (gVar 1) gNil))) gNil)))
def m_least_round_N := mN 2 g_least_round_N
end Lw

set_option maxHeartbeats 4000000
namespace Fu
open PySem
/-! ### comprehensions over typed items -/
theorem turns_typed {α : Type} {gg : D → Sx → Option Sx} {gt : M Bool} {ge : M D} {vs : List Nat} {b : α → Bool} {enc f : α → D} {w : List (Option R)} {os : List (Option Cell)} :
    ∀ (xs : List α) (sl : List (Option R)), wipeS sl vs = w → (∀ x ∈ xs, ∃ sl1, gg (enc x) ⟨w, os⟩ = some ⟨sl1, os⟩ ∧ wipeS sl1 vs = w ∧ gt ⟨sl1, os⟩ = some (b x, ⟨sl1, os⟩) ∧ (b x = true → ge ⟨sl1, os⟩ = some (f x, ⟨sl1, os⟩))) →
      ∃ sl', wipeS sl' vs = w ∧ gTurns gg gt ge vs (xs.map enc) ⟨sl, os⟩ = some ((xs.filter b).map f, ⟨sl', os⟩)
  | [], sl, e, _ => ⟨sl, e, rfl⟩
  | x :: xs, sl, e, h => by
    obtain ⟨sl1, h1, h2, h3, h4⟩ := h x List.mem_cons_self
    obtain ⟨sl', e', ih⟩ := turns_typed xs sl1 h2 fun y hy => h y (List.mem_cons_of_mem _ hy)
    refine ⟨sl', e', ?_⟩
    rw [List.map_cons, gTurns]
    simp only [e, h1, h3, Option.bind_some]
    cases hb : b x with
    | true => simp [h4 hb, ih, hb]
    | false => simp [ih, hb]
theorem ev_lcX {α : Type} {S : Sx} {Q : D → Sx → Prop} {gi : M (List D)} {gg : D → Sx → Option Sx} {gt : M Bool} {ge : M D} {vs : List Nat} {xs : List α} {enc : α → D} {b : α → Bool} {g : α → D}
    (h : Ev (gi S) fun ds S1 => ds = xs.map enc ∧ (∀ x ∈ xs, Es (gg (enc x) ⟨wipeS S1.sl vs, S1.os⟩) fun S2 => wipeS S2.sl vs = wipeS S1.sl vs ∧ S2.os = S1.os ∧ Ev (gt S2) fun c S3 => S3 = S2 ∧ c = b x ∧ (b x = true → Ev (ge S2) fun e S4 => e = g x ∧ S4 = S2)) ∧ Q (.list ((xs.filter b).map g)) S1) : Ev (gLc gi gg gt ge vs S) Q := by
  obtain ⟨ds, ⟨sl1, os1⟩, e1, rfl, h1, q⟩ := h
  obtain ⟨sl', e', ht⟩ := turns_typed (gg := gg) (gt := gt) (ge := ge) (b := b) (enc := enc) (f := g) xs sl1 rfl fun d hd => by
    obtain ⟨⟨sl2, os2⟩, e2, e3, e4, c, S3, e5, e6, e7, e8⟩ := h1 d hd
    cases e4
    subst e7 e6
    exact ⟨sl2, e2, e3, e5, fun hb => (e8 hb).eq⟩
  refine ⟨_, _, ?_, q⟩
  unfold gLc
  rw [e1]
  simp only [Option.bind_some, ht, backS_same e']
theorem ev_mapX {α : Type} {S : Sx} {Q : D → Sx → Prop} {gi : M (List D)} {gg : D → Sx → Option Sx} {ge : M D} {vs : List Nat} {xs : List α} {enc : α → D} {g : α → D}
    (h : Ev (gi S) fun ds S1 => ds = xs.map enc ∧ (∀ x ∈ xs, Es (gg (enc x) ⟨wipeS S1.sl vs, S1.os⟩) fun S2 => wipeS S2.sl vs = wipeS S1.sl vs ∧ S2.os = S1.os ∧ Ev (ge S2) fun e S4 => e = g x ∧ S4 = S2) ∧ Q (.list (xs.map g)) S1) : Ev (gLc gi gg gYes ge vs S) Q := by
  refine ev_lcX (xs := xs) (enc := enc) (b := fun _ => true) (g := g) ?_
  refine h.mono fun ds S1 h => ⟨h.1, fun d hd => ?_, by rw [List.filter_eq_self.mpr fun _ _ => rfl]; exact h.2.2⟩
  obtain ⟨S2, e2, e3, e4, e5⟩ := h.2.1 d hd
  exact ⟨S2, e2, e3, e4, ev_yes ⟨rfl, rfl, fun _ => e5⟩⟩
/-- loops over typed items -/
theorem eo_loopX {α : Type} {S : Sx} {Z : Out → Prop} {gg : D → Sx → Option Sx} {body : Sx → Option Out} {xs : List α} {enc : α → D} (I : Nat → Sx → Prop) (h0 : I 0 S) (hs : ∀ i x S, xs[i]? = some x → I i S → Es (gg (enc x) S) fun S1 => Eo (body S1) fun o => ∃ S2, o = .nx S2 ∧ I (i + 1) S2) (hz : ∀ S', I xs.length S' → Z (.nx S')) : Eo (gLoop gg body (xs.map enc) S) Z := by
  refine eo_loop I h0 (fun i d S hd hI => ?_) fun S' h => hz S' (by simpa using h)
  rw [List.getElem?_map] at hd
  obtain ⟨x, hx, rfl⟩ := Option.map_eq_some_iff.mp hd
  exact hs i x S hx hI
theorem rng0 (n : Nat) : rng 0 n = (List.range n).map fun i : Nat => .int (i : Int) := by
  unfold rng; simp

/-! ### lists or tuples -/
def seqOf : D → Option (List D)
  | .list xs => some xs
  | .tuple xs => some xs
  | _ => none
def Sq (d : D) (xs : List D) : Prop := d = .list xs ∨ d = .tuple xs
theorem sq_l (xs : List D) : Sq (.list xs) xs := .inl rfl
theorem sq_t (xs : List D) : Sq (.tuple xs) xs := .inr rfl
theorem sq_of {d : D} {xs : List D} (h : seqOf d = some xs) : Sq d xs := by
  cases d <;> simp [seqOf] at h
  · exact .inl (by rw [h])
  · exact .inr (by rw [h])
theorem Sq.of {d : D} {xs : List D} (h : Sq d xs) : seqOf d = some xs := by rcases h with rfl | rfl <;> rfl
theorem isi_seq (d : D) : (isT "list" d || isT "tuple" d) = (seqOf d).isSome := by cases d <;> rfl
section
variable {Q : D → Prop} {d x : D} {xs : List D} {i : Int}
theorem ed_ixQ (s : Sq d xs) (h0 : 0 ≤ i) (e : xs[i.toNat]? = some x) (h : Q x) : Ed (dIx d (.int i)) Q := by
  rcases s with rfl | rfl
  · exact ed_ixL h0 e h
  · exact ed_ixT h0 e h
theorem ed_lenQ (s : Sq d xs) (h : Q (.int xs.length)) : Ed (dLen [d]) Q := by rcases s with rfl | rfl <;> exact ⟨_, rfl, h⟩
theorem ed_itQ {Q : List D → Prop} (s : Sq d xs) (h : Q xs) : Ed (itemsOf d) Q := by rcases s with rfl | rfl <;> exact ⟨_, rfl, h⟩
theorem ed_tupQ (s : Sq d xs) (h : Q (.tuple xs)) : Ed (dTuple [d]) Q := by rcases s with rfl | rfl <;> exact ⟨_, rfl, h⟩
end
theorem all_mapX {α : Type} (f : α → Bool) (xs : List α) {Q : D → Prop} (h : Q (.bool (xs.all f))) : Ed (dAll [.list (xs.map fun a => .bool (f a))]) Q := ⟨_, all_map f xs, h⟩
/-! ### looks -/
theorem ev_view {S : Sx} {g : M D} {Q : D → Sx → Prop} (h : Ev (g (sealAll S)) fun d _ => hardD d = true ∧ Q d S) : Ev (gView g S) Q := by
  obtain ⟨d, S1, e, hz, q⟩ := h
  exact ⟨d, S, by simp only [gView, e, Option.bind_some, hz, if_true], q⟩
theorem sealS_none (os : List (Option Cell)) : sealS os none = none := rfl
theorem sealS_dat (os : List (Option Cell)) (d : D) : sealS os (some (.dat d)) = some (.dat d) := rfl
theorem sealS_scr (os : List (Option Cell)) (d : List Int) : sealS os (some (.scr d)) = some (.scr d) := rfl
def sealC (os : List (Option Cell)) : Option (Option Cell) → Option R
  | some (some (.lst ds)) => some (.dat (.list ds))
  | some (some (.lR rs)) => ((mapO (snapR os 7) rs).map .list).map .dat
  | _ => none
theorem sealS_own (os : List (Option Cell)) (j : Nat) : sealS os (some (.own j)) = sealC os os[j]? := by
  simp only [sealS, snapR]
  generalize os[j]? = c
  rcases c with _ | _ | c
  · rfl
  · rfl
  · cases c <;> rfl
theorem sealC_lst (os : List (Option Cell)) (ds : List D) : sealC os (some (some (.lst ds))) = some (.dat (.list ds)) := rfl
theorem sealAll_mk {sl sl' : List (Option R)} {os os' : List (Option Cell)} (h : sl.map (sealS os) = sl') (h2 : os.map (fun _ => none) = os') : sealAll ⟨sl, os⟩ = ⟨sl', os'⟩ := by unfold sealAll; rw [h, h2]
end Fu

set_option maxHeartbeats 4000000
namespace Lw
open PySem Fu
local macro_rules | `(tactic| walk_at "e1") => `(tactic| first
  | with_reducible refine eo_seq ?_ | (with_reducible refine then_nx' ?_; refine ⟨?_, ?_, ?_⟩; rotate_left; · (try dsimp only [List.set, List.length_cons, List.length_nil, List.cons_append, List.nil_append, Nat.zero_add, Nat.reduceAdd]); exact rfl) | with_reducible refine then_rt ?_ | with_reducible refine eo_if ?_ | with_reducible refine eo_ret ?_ | with_reducible refine eo_set ?_ | with_reducible refine eo_asg ?_ | with_reducible refine eo_drop ?_ | with_reducible refine eo_nx ?_ | with_reducible refine eo_par ?_ | with_reducible refine eo_own ?_ | with_reducible refine eo_retN ?_ | with_reducible refine eo_for ?_ | with_reducible refine eo_retO ?_
  | with_reducible refine ev_c ?_ | (with_reducible refine ev_var ?_; refine ⟨_, rfl, ?_⟩) | with_reducible refine ev_bin ?_ | with_reducible refine ev_un ?_ | with_reducible refine ev_nil ?_ | with_reducible refine ev_cons ?_
  | with_reducible refine ev_tup ?_ | with_reducible refine ev_lst ?_ | with_reducible refine ev_call ?_ | with_reducible refine ev_callF ?_ | with_reducible refine ev_isi ?_ | with_reducible refine ev_isi2 ?_ | with_reducible refine ev_andV ?_ | with_reducible refine ev_orV ?_ | with_reducible refine ev_notV ?_
  | with_reducible refine ev_B ?_ | with_reducible refine ev_and ?_ | with_reducible refine ev_or ?_ | with_reducible refine ev_not ?_ | with_reducible refine ev_yes ?_ | with_reducible refine ev_if ?_ | with_reducible refine ev_no ?_ | with_reducible refine ev_so ?_ | with_reducible refine ev_sl ?_ | with_reducible refine ev_items ?_
  | (with_reducible refine ev_ixO ?_; refine ⟨_, _, rfl, rfl, ?_⟩) | (with_reducible refine ev_varO ?_; refine ⟨_, _, rfl, rfl, ?_⟩) | (with_reducible refine ev_lenO ?_; refine ⟨_, _, rfl, rfl, ?_⟩) | (with_reducible refine ev_scrSl ?_; refine ⟨_, rfl, ?_⟩) | (with_reducible refine ev_scrLen ?_; refine ⟨_, rfl, ?_⟩) | (with_reducible refine ev_callScr ?_; refine ⟨_, rfl, ?_⟩) | (with_reducible refine ev_OL ?_; refine ⟨_, _, rfl, rfl, ?_⟩) | with_reducible refine ev_OR ?_ | with_reducible refine ev_rep ?_ | with_reducible refine ev_listRng1 ?_ | with_reducible refine eo_setO ?_
  | with_reducible refine es_name ?_ | with_reducible refine es_tup2 ?_ | with_reducible refine es_tup3 ?_
  | with_reducible refine ed_addI ?_ | with_reducible refine ed_subI ?_ | with_reducible refine ed_cmp ?_ | with_reducible refine ed_eqI ?_ | with_reducible refine ed_neI ?_ | with_reducible refine ed_slT ?_ | with_reducible refine ed_slL ?_ | with_reducible refine ed_lenT ?_ | with_reducible refine ed_lenL ?_ | with_reducible refine ed_lenS ?_ | with_reducible refine ed_inS ?_ | with_reducible refine ed_itT ?_ | with_reducible refine ed_itL ?_ | with_reducible refine ed_tupL ?_ | with_reducible refine ed_tupT ?_ | with_reducible refine ed_listL ?_ | with_reducible refine ed_listT ?_ | with_reducible refine ed_neg ?_ | with_reducible refine ed_max ?_ | with_reducible refine ed_min ?_ | with_reducible refine ed_intB ?_
  | with_reducible refine ev_rng1 ?_ | with_reducible refine ev_rng2 ?_)
local macro_rules | `(tactic| walk_at "sd") => `(tactic| first | rfl | assumption | (simp only [decide_eq_true_eq, decide_eq_false_iff_not, Bool.not_eq_true', Bool.not_eq_false', Bool.and_eq_true, Bool.or_eq_true, List.length_map, List.length_cons, List.length_nil, List.length_append, List.length_range] at *; omega))
local macro_rules | `(tactic| walk_at "e2") => `(tactic| first
  | walk_at "e1" | with_reducible refine ⟨_, rfl, ?_⟩ | with_reducible refine ⟨_, _, rfl, ?_⟩
  | with_reducible refine And.intro (Eq.refl (List.length _)) ?_ | with_reducible refine And.intro (Nat.le_of_ble_eq_true (n := List.length _) rfl) ?_
  | with_reducible refine And.intro (Eq.refl (_ : Sx)) (?_ : Ed _ _)
  | ((with_reducible refine And.intro ?_ (And.intro ?_ (?_ : Ev _ _))); (· rfl); (· rfl))
  | ((with_reducible refine ed_ixT ?_ ?_ ?_); (· decide); (· rfl)) | ((with_reducible refine ed_ixL ?_ ?_ ?_); (· decide); (· rfl)) | ((with_reducible refine ed_at ?_ ?_ ?_); (· decide); (· rfl))
  | ((with_reducible refine ed_modI ?_ ?_); (· first | decide | omega))
  | with_reducible exact gives_nx | ((with_reducible refine gives_rt ?_); (· rfl)) | ((with_reducible refine And.intro ?_ ?_); (· exact rfl); (· with_reducible exact Eq.refl (_ : Sx))))
local macro_rules | `(tactic| walk_at "e") => `(tactic| repeat walk_at "e2")
/-- begin a def's spec -/
local macro_rules | `(tactic| walk_at "i") => `(tactic| simp only [initS, List.map_cons, List.map_nil, List.length_cons, List.length_nil, Nat.reduceAdd, Nat.reduceSub, List.replicate, List.cons_append, List.nil_append])
/-- a known truth decides -/
local macro_rules | `(tactic| walk_at "t") => `(tactic| first | ((with_reducible refine split_t ?_ ?_); (· walk_at "sd")) | ((with_reducible refine split_t' ?_ ?_); (· walk_at "sd")))
local macro_rules | `(tactic| walk_at "f") => `(tactic| first | ((with_reducible refine split_f ?_ ?_); (· walk_at "sd")) | ((with_reducible refine split_f' ?_ ?_); (· walk_at "sd")))
/-- all that is seen in a look -/
local macro_rules | `(tactic| walk_at "v") => `(tactic| (rw [sealAll_mk (by (simp only [List.set_cons_zero, List.set_cons_succ, List.map_cons, List.map_nil, sealS_none, sealS_dat, sealS_scr, sealS_own, List.getElem?_cons_zero, List.getElem?_cons_succ, sealC_lst]; rfl)) (by (simp only [List.set_cons_zero, List.set_cons_succ, List.map_cons, List.map_nil]; rfl))]))

section
/-! ### whole numbers, rows, companies, lines, ends: of anything -/
def wholeD : D → Bool
  | .int i => decide (0 ≤ i)
  | _ => false
def rowD (n : Nat) (d : D) : Bool := match seqOf d with
  | some xs => decide (xs.length = n)
  | none => false
def Let (c : Nat) : Prop := 97 ≤ c ∧ c ≤ 122
instance (c : Nat) : Decidable (Let c) := inferInstanceAs (Decidable (_ ∧ _))
theorem Let.ok {c : Nat} (h : Let c) : c < 0x110000 := by have := h.2; omega
def companyD : D → Bool
  | .str x => match x.cps.toList with
    | [c] => decide (Let c)
    | _ => false
  | _ => false
def endD (n : Nat) (d : D) : Bool := match seqOf d with
  | some [.int a, .int s] => decide (0 ≤ a) && decide (0 ≤ s) && decide (a < n) && decide (s < 2)
  | _ => false
theorem company_of {d : D} (h : companyD d = true) : ∃ c, d = ch c ∧ Let c := by
  unfold companyD at h
  split at h
  · split at h
    · rename_i x c e
      refine ⟨c, ?_, of_decide_eq_true h⟩
      unfold ch
      congr 1
      exact congrArg Str.mk (Array.toList_inj.mp (by simpa using e))
    · cases h
  · cases h
theorem x_is_whole (d : D) : m_is_whole [d] = some (.bool (wholeD d)) := by
  unfold m_is_whole; refine mF_of ?_; walk_at "i"; unfold g_is_whole
  walk_at "e"
  refine ⟨fun h1 => ?_, fun h1 => ?_⟩
  · walk_at "e"
    refine ⟨fun h2 => ?_, fun h2 => ?_⟩
    · cases d <;> simp [isT, dTy] at h1 h2
      walk_at "e"
    · cases d <;> simp [isT, dTy] at h1 h2
      walk_at "e"
  · cases d <;> simp [isT, dTy] at h1 <;> walk_at "e"
theorem x_is_row (d : D) (n : Nat) : m_is_row [d, .int n] = some (.bool (rowD n d)) := by
  unfold m_is_row; refine mF_of ?_; walk_at "i"; unfold g_is_row
  walk_at "e"
  rw [isi_seq]
  refine ⟨fun h1 => ?_, fun h1 => ?_⟩
  · obtain ⟨xs, hx⟩ := Option.isSome_iff_exists.mp h1
    walk_at "e"
    refine ed_lenQ (sq_of hx) ?_
    walk_at "e"
    unfold rowD
    rw [gives_rtI, hx]
    simp only [PyData.bool.injEq, decide_eq_decide]
    omega
  · have hx : seqOf d = none := by simpa using h1
    rw [gives_rtI]
    unfold rowD; rw [hx]
theorem letters : ("abcdefghijklmnopqrstuvwxyz" : Str).cps.toList = (List.range 26).map (97 + ·) := by decide +kernel
theorem row_of {n : Nat} {d : D} (h : rowD n d = true) : ∃ xs, Sq d xs ∧ xs.length = n := by
  unfold rowD at h
  split at h
  · rename_i xs e; exact ⟨xs, sq_of e, of_decide_eq_true h⟩
  · cases h
def placeD (p : Int) (d : D) : Bool := match d with | .int a => decide (0 ≤ a) && decide (a < p) | _ => false
/-! ### webs -/
abbrev Ln := Int × Int × Nat
def ln (l : Ln) : D := .tuple [.int l.1, .int l.2.1, ch l.2.2]
def wb (p : Int) (ls : List Ln) : D := .tuple [.int p, .tuple (ls.map ln)]
structure LnOk (p : Int) (l : Ln) : Prop where
  a0 : 0 ≤ l.1
  a1 : l.1 < p
  b0 : 0 ≤ l.2.1
  b1 : l.2.1 < p
  c : Let l.2.2
structure WbOk (p : Int) (ls : List Ln) : Prop where
  p0 : 0 ≤ p
  all : ∀ l ∈ ls, LnOk p l
  len : ls.length ≤ 1000000
def IsLn (d : D) (l : Ln) : Prop := Sq d [.int l.1, .int l.2.1, ch l.2.2]
def Lns (d : D) (ls : List Ln) : Prop := ∃ ps : List (D × Ln), Sq d (ps.map (·.1)) ∧ ls = ps.map (·.2) ∧ ∀ q ∈ ps, IsLn q.1 q.2
def Web (d : D) (p : Int) (ls : List Ln) : Prop := ∃ L, Sq d [.int p, L] ∧ Lns L ls
theorem isLn_ln (l : Ln) : IsLn (ln l) l := sq_t _
theorem lns_of {d : D} {ls : List Ln} (s : Sq d (ls.map ln)) : Lns d ls := ⟨ls.map fun l => (ln l, l), by rw [List.map_map]; exact s, by rw [List.map_map]; exact (List.map_id _).symm, fun q hq => by
  obtain ⟨l, _, rfl⟩ := List.mem_map.mp hq
  exact isLn_ln l⟩
theorem web_wb (p : Int) (ls : List Ln) : Web (wb p ls) p ls := ⟨_, sq_t _, lns_of (sq_t _)⟩
theorem line_at {d : D} {ls : List Ln} (h : Lns d ls) {i : Nat} {l : Ln} (hl : ls[i]? = some l) : ∃ xs x, Sq d xs ∧ xs.length = ls.length ∧ xs[i]? = some x ∧ IsLn x l := by
  obtain ⟨ps, s, rfl, hp⟩ := h
  rw [List.getElem?_map] at hl
  obtain ⟨q, hq, rfl⟩ := Option.map_eq_some_iff.mp hl
  exact ⟨_, q.1, s, by simp, by rw [List.getElem?_map, hq]; rfl, hp q (List.mem_of_getElem? hq)⟩
theorem lns_len {d : D} {ls : List Ln} (h : Lns d ls) : ∃ xs, Sq d xs ∧ xs.length = ls.length := by
  obtain ⟨ps, s, rfl, hp⟩ := h
  exact ⟨_, s, by simp⟩
/-! ### ends -/
def en (e : Int × Int) : D := .tuple [.int e.1, .int e.2]
def IsEn (d : D) (e : Int × Int) : Prop := Sq d [.int e.1, .int e.2]
theorem isEn_en (e : Int × Int) : IsEn (en e) e := sq_t _
def EndOk (n : Nat) (e : Int × Int) : Prop := 0 ≤ e.1 ∧ e.1 < n ∧ 0 ≤ e.2 ∧ e.2 < 2
instance (n : Nat) (e : Int × Int) : Decidable (EndOk n e) := by unfold EndOk; infer_instance
theorem endD_of {n : Nat} {d : D} {e : Int × Int} (s : IsEn d e) : endD n d = decide (EndOk n e) := by
  unfold endD
  rw [s.of]
  refine Bool.eq_iff_iff.mpr ⟨fun h => decide_eq_true ?_, fun h => ?_⟩
  · simp only [Bool.and_eq_true, decide_eq_true_eq] at h
    exact ⟨h.1.1.1, h.1.2, h.1.1.2, h.2⟩
  · have h := of_decide_eq_true h
    simp only [Bool.and_eq_true, decide_eq_true_eq]
    exact ⟨⟨⟨h.1, h.2.2.1⟩, h.2.1⟩, h.2.2.2⟩
theorem isEn_of {n : Nat} {d : D} (h : endD n d = true) : ∃ e, IsEn d e ∧ EndOk n e := by
  unfold endD at h
  split at h
  · rename_i a s e
    have h1 := h
    simp only [Bool.and_eq_true, decide_eq_true_eq] at h1
    exact ⟨(a, s), sq_of e, h1.1.1.1, h1.1.2, h1.1.1.2, h1.2⟩
  · cases h
theorem x_is_end {w : D} {p : Int} {ls : List Ln} (hw : Web w p ls) (d : D) : m_is_end [w, d] = some (.bool (endD ls.length d)) := by
  obtain ⟨L, s, hL⟩ := hw
  obtain ⟨xs, sx, hl⟩ := lns_len hL
  unfold m_is_end; refine mF_of ?_; walk_at "i"; unfold g_is_end
  walk_at "e"
  refine Ed.of (x_is_row d 2) ?_
  walk_at "e"
  refine ⟨fun h1 => ?_, fun h1 => ?_⟩
  rotate_left
  · walk_at "t"
    walk_at "e"
    have h1 : rowD 2 d = false := by simpa using h1
    have : endD ls.length d = false := by
      unfold endD; unfold rowD at h1
      split
      · rename_i e; rw [e] at h1; simp at h1
      · rfl
    simp [this]
  have h1 : rowD 2 d = true := by simpa using h1
  obtain ⟨zs, sz, hz⟩ := row_of h1
  obtain ⟨a, b, rfl⟩ : ∃ a b, zs = [a, b] := by
    match zs, hz with
    | [a, b], _ => exact ⟨a, b, rfl⟩
  have el : endD ls.length d = (wholeD a && wholeD b && (match a, b with | .int a, .int b => decide (a < ls.length) && decide (b < 2) | _, _ => false)) := by
    unfold endD; rw [sz.of]
    cases a <;> cases b <;> simp [wholeD, Bool.and_assoc]
  rw [el]
  walk_at "e"
  refine ed_ixQ sz (by decide) rfl ?_
  walk_at "e"
  refine Ed.of (x_is_whole _) ?_
  walk_at "e"
  refine ⟨fun h2 => ?_, fun h2 => ?_⟩
  rotate_left
  · walk_at "t"
    walk_at "e"
    have h2 : wholeD a = false := by simpa using h2
    simp [h2]
  have h2 : wholeD a = true := by simpa using h2
  walk_at "e"
  refine ed_ixQ sz (by decide) rfl ?_
  walk_at "e"
  refine Ed.of (x_is_whole _) ?_
  walk_at "e"
  refine ⟨fun h3 => ?_, fun h3 => ?_⟩
  · walk_at "e"
    have h3 : wholeD b = false := by simpa using h3
    simp [h2, h3]
  have h3 : wholeD b = true := by simpa using h3
  cases a <;> simp [wholeD] at h2
  cases b <;> simp [wholeD] at h3
  walk_at "e"
  refine ed_ixQ sz (by decide) rfl ?_
  walk_at "e"
  refine ed_ixQ s (by decide) rfl ?_
  walk_at "e"
  refine ed_lenQ sx ?_
  walk_at "e"
  rw [hl]
  refine ⟨fun h4 => ?_, fun h4 => ?_⟩
  · walk_at "e"
    refine ed_ixQ sz (by decide) rfl ?_
    walk_at "e"
    simp [wholeD, h2, h3, h4]
  · walk_at "e"
    simp [h4]
def sideOf (s : Int) (l : Ln) : Int := if s = 0 then l.1 else l.2.1
def plc (ls : List Ln) (e : Int × Int) : Int := match ls[e.1.toNat]? with
  | some l => sideOf e.2 l
  | none => 0
def cmpy (ls : List Ln) (e : Int × Int) : Nat := match ls[e.1.toNat]? with
  | some l => l.2.2
  | none => 0
def far (e : Int × Int) : Int × Int := (e.1, 1 - e.2)
theorem end_line {n : Nat} {ls : List Ln} {e : Int × Int} (hn : n = ls.length) (h : EndOk n e) : ∃ l, ls[e.1.toNat]? = some l ∧ l ∈ ls := by
  have hl : e.1.toNat < ls.length := by have := h.1; have := h.2.1; omega
  exact ⟨_, List.getElem?_eq_getElem hl, List.getElem_mem hl⟩
theorem x_place_of {w : D} {p : Int} {ls : List Ln} {d : D} {e : Int × Int} (hw : Web w p ls) (s : IsEn d e) (h : EndOk ls.length e) : m_place_of [w, d] = some (.int (plc ls e)) := by
  obtain ⟨L, sw, hL⟩ := hw
  obtain ⟨l, hl, _⟩ := end_line rfl h
  obtain ⟨xs, x, sx, hxl, hx, hln⟩ := line_at hL hl
  unfold m_place_of; refine mF_of ?_; walk_at "i"; unfold g_place_of
  walk_at "e"
  refine ed_ixQ sw (by decide) rfl ?_
  walk_at "e"
  refine ed_ixQ s (by decide) rfl ?_
  walk_at "e"
  refine ed_ixQ sx h.1 hx ?_
  walk_at "e"
  refine ed_ixQ s (by decide) rfl ?_
  walk_at "e"
  have h2 : e.2 = 0 ∨ e.2 = 1 := by have := h.2.2.1; have := h.2.2.2; omega
  unfold plc; rw [hl]
  rcases h2 with h2 | h2 <;> rw [h2] <;> exact ed_ixQ hln (by decide) rfl rfl
theorem x_company_of {w : D} {p : Int} {ls : List Ln} {d : D} {e : Int × Int} (hw : Web w p ls) (s : IsEn d e) (h : EndOk ls.length e) : m_company_of [w, d] = some (ch (cmpy ls e)) := by
  obtain ⟨L, sw, hL⟩ := hw
  obtain ⟨l, hl, _⟩ := end_line rfl h
  obtain ⟨xs, x, sx, hxl, hx, hln⟩ := line_at hL hl
  unfold m_company_of; refine mF_of ?_; walk_at "i"; unfold g_company_of
  walk_at "e"
  refine ed_ixQ sw (by decide) rfl ?_
  walk_at "e"
  refine ed_ixQ s (by decide) rfl ?_
  walk_at "e"
  refine ed_ixQ sx h.1 hx ?_
  walk_at "e"
  refine ed_ixQ hln (by decide) rfl ?_
  unfold cmpy; rw [hl]; rfl
theorem cmpy_let {p : Int} {ls : List Ln} {e : Int × Int} (h : WbOk p ls) (k : EndOk ls.length e) : Let (cmpy ls e) := by
  obtain ⟨l, hl, hm⟩ := end_line rfl k
  unfold cmpy; rw [hl]
  exact (h.all _ hm).c
theorem cmpy_ok {p : Int} {ls : List Ln} {e : Int × Int} (h : WbOk p ls) (k : EndOk ls.length e) : cmpy ls e < 0x110000 := (cmpy_let h k).ok
/-! ### all ends, the ends at a place -/
def allE (n : Nat) : List (Int × Int) := (List.range n).flatMap fun i : Nat => [((i : Int), 0), ((i : Int), 1)]
def ends (ls : List Ln) (q : Int) : List (Int × Int) := (allE ls.length).filter fun e => decide (plc ls e = q)
end

section
/-! ### rides -/
def goesB (ls : List Ln) (e f : Int × Int) : Bool := decide (plc ls (far e) = plc ls f) && !decide (cmpy ls e = cmpy ls f)
def rideB (ls : List Ln) (es : List (Int × Int)) : Bool := decide (es ≠ []) && es.all (fun e => decide (EndOk ls.length e)) && decide (es.map Prod.fst).Nodup && (es.zip es.tail).all fun p => goesB ls p.1 p.2
def lastE (es : List (Int × Int)) : Int × Int := es.getLast?.getD (0, 0)
def headE (es : List (Int × Int)) : Int × Int := es.head?.getD (0, 0)
def roundB (ls : List Ln) (es : List (Int × Int)) : Bool := rideB ls es && goesB ls (lastE es) (headE es)
theorem far_far (e : Int × Int) : far (far e) = e := by
  unfold far
  obtain ⟨a, b⟩ := e
  simp only [Prod.mk.injEq, true_and]
  omega
theorem EndOk.far {n : Nat} {e : Int × Int} (h : EndOk n e) : EndOk n (far e) := by
  obtain ⟨h1, h2, h3, h4⟩ := h
  exact ⟨h1, h2, by show 0 ≤ 1 - e.2; omega, by show 1 - e.2 < 2; omega⟩
theorem cmpy_far (ls : List Ln) (e : Int × Int) : cmpy ls (far e) = cmpy ls e := rfl
theorem goes_far (ls : List Ln) (e f : Int × Int) : goesB ls (far f) (far e) = goesB ls e f := by
  unfold goesB
  rw [far_far, cmpy_far, cmpy_far]
  congr 1
  · apply decide_eq_decide.mpr; exact eq_comm
  · congr 1
    apply decide_eq_decide.mpr; exact eq_comm
theorem x_far_end {d : D} {e : Int × Int} (s : IsEn d e) : m_far_end [d] = some (en (far e)) := by
  unfold m_far_end; refine mF_of ?_; walk_at "i"; unfold g_far_end
  walk_at "e"
  refine ed_ixQ s (by decide) rfl ?_
  walk_at "e"
  refine ed_ixQ s (by decide) rfl ?_
  walk_at "e"
theorem x_can_go_on {w : D} {p : Int} {ls : List Ln} {a b : D} {e f : Int × Int} (hw : Web w p ls) (h : WbOk p ls) (sa : IsEn a e) (sb : IsEn b f) (he : EndOk ls.length e) (hf : EndOk ls.length f) : m_can_go_on [w, a, b] = some (.bool (goesB ls e f)) := by
  unfold m_can_go_on; refine mF_of ?_; walk_at "i"; unfold g_can_go_on goesB
  walk_at "e"
  refine Ed.of (x_far_end sa) ?_
  walk_at "e"
  refine Ed.of (x_place_of hw (isEn_en _) he.far) ?_
  walk_at "e"
  refine Ed.of (x_place_of hw sb hf) ?_
  walk_at "e"
  refine ⟨fun ht => ?_, fun ht => ?_⟩
  · walk_at "e"
    simp only [Bool.not_eq_true', decide_eq_false_iff_not] at ht
    simp [ht]
  · walk_at "e"
    refine Ed.of (x_company_of hw sa he) ?_
    walk_at "e"
    refine Ed.of (x_company_of hw sb hf) ?_
    walk_at "e"
    refine Ed.of (dNe_ch (cmpy_ok h he) (cmpy_ok h hf)) ?_
    simp only [Bool.not_eq_false', decide_eq_true_eq] at ht
    simp [ht]
theorem head_mem {es : List (Int × Int)} (h : es ≠ []) : es[0]? = some (headE es) ∧ headE es ∈ es := by
  cases es with
  | nil => exact absurd rfl h
  | cons e es => exact ⟨rfl, List.mem_cons_self⟩
theorem ed_lastQ {d : D} {xs : List D} {x : D} {Q : D → Prop} (s : Sq d xs) (e : xs.getLast? = some x) (q : Q x) : Ed (dIx d (.int (-1))) Q := by
  rcases s with rfl | rfl
  · obtain ⟨z, h1, h2⟩ := ed_atLast (Q := Q) e q
    exact ⟨z, h1, h2⟩
  · obtain ⟨z, h1, h2⟩ := ed_atLast (Q := Q) e q
    exact ⟨z, h1, h2⟩
/-- a list of ends, as handed -/
def IsRide (d : D) (es : List (Int × Int)) : Prop := ∃ ps : List (D × (Int × Int)), Sq d (ps.map (·.1)) ∧ es = ps.map (·.2) ∧ ∀ q ∈ ps, IsEn q.1 q.2
theorem ride_of {d : D} {es : List (Int × Int)} (s : Sq d (es.map en)) : IsRide d es := ⟨es.map fun l => (en l, l), by rw [List.map_map]; exact s, by rw [List.map_map]; exact (List.map_id _).symm, fun q hq => by
  obtain ⟨l, _, rfl⟩ := List.mem_map.mp hq
  exact isEn_en l⟩
def lE (es : List (Int × Int)) : D := .list (es.map en)
theorem ride_lE (es : List (Int × Int)) : IsRide (lE es) es := ride_of (sq_l _)
def unEn (d : D) : Int × Int := match seqOf d with
  | some [.int a, .int b] => (a, b)
  | _ => (0, 0)
theorem unEn_of {d : D} {e : Int × Int} (s : IsEn d e) : unEn d = e := by unfold unEn; rw [s.of]
def rideD (ls : List Ln) (d : D) : Bool := match seqOf d with
  | some xs => xs.all (endD ls.length) && rideB ls (xs.map unEn)
  | none => false
def roundD (ls : List Ln) (d : D) : Bool := match seqOf d with
  | some xs => xs.all (endD ls.length) && roundB ls (xs.map unEn)
  | none => false
theorem map_unEn {ps : List (D × (Int × Int))} (h : ∀ q ∈ ps, IsEn q.1 q.2) : (ps.map (·.1)).map unEn = ps.map (·.2) := by
  rw [List.map_map]
  exact List.map_congr_left fun q hq => unEn_of (h q hq)
theorem all_endD {ps : List (D × (Int × Int))} (h : ∀ q ∈ ps, IsEn q.1 q.2) (n : Nat) : (ps.map (·.1)).all (endD n) = (ps.map (·.2)).all fun e => decide (EndOk n e) := by
  rw [List.all_map, List.all_map]
  apply Bool.eq_iff_iff.mpr
  simp only [List.all_eq_true, Function.comp]
  exact ⟨fun k q hq => by rw [← endD_of (h q hq)]; exact k q hq, fun k q hq => by rw [endD_of (h q hq)]; exact k q hq⟩
theorem rideD_of {ls : List Ln} {d : D} {es : List (Int × Int)} (h : IsRide d es) : rideD ls d = rideB ls es := by
  obtain ⟨ps, s, rfl, hp⟩ := h
  unfold rideD; rw [s.of]
  simp only
  rw [map_unEn hp, all_endD hp]
  unfold rideB
  cases (ps.map (·.2)).all fun e => decide (EndOk ls.length e) <;> simp
theorem roundD_of {ls : List Ln} {d : D} {es : List (Int × Int)} (h : IsRide d es) : roundD ls d = roundB ls es := by
  obtain ⟨ps, s, rfl, hp⟩ := h
  unfold roundD; rw [s.of]
  simp only
  rw [map_unEn hp, all_endD hp]
  unfold roundB rideB
  cases (ps.map (·.2)).all fun e => decide (EndOk ls.length e) <;> simp
theorem seq_ride {xs : List D} {n : Nat} (h : xs.all (endD n) = true) : ∃ ps : List (D × (Int × Int)), xs = ps.map (·.1) ∧ (∀ q ∈ ps, IsEn q.1 q.2) ∧ ∀ q ∈ ps, EndOk n q.2 := by
  induction xs with
  | nil => exact ⟨[], rfl, (fun _ h => nomatch h), fun _ h => nomatch h⟩
  | cons x xs ih =>
    rw [List.all_cons, Bool.and_eq_true] at h
    obtain ⟨e, s, k⟩ := isEn_of h.1
    obtain ⟨ps, rfl, h1, h2⟩ := ih h.2
    exact ⟨(x, e) :: ps, rfl, fun q hq => by rcases List.mem_cons.mp hq with rfl | hq; exact s; exact h1 q hq, fun q hq => by rcases List.mem_cons.mp hq with rfl | hq; exact k; exact h2 q hq⟩
theorem of_rideD {ls : List Ln} {d : D} (h : rideD ls d = true) : ∃ es, IsRide d es ∧ rideB ls es = true := by
  have h0 := h
  unfold rideD at h
  split at h
  · rename_i xs e
    rw [Bool.and_eq_true] at h
    obtain ⟨ps, rfl, h1, h2⟩ := seq_ride h.1
    have k : IsRide d (ps.map (·.2)) := ⟨ps, sq_of e, rfl, h1⟩
    exact ⟨_, k, by rw [← rideD_of k]; exact h0⟩
  · cases h
theorem rideB_ends {ls : List Ln} {es : List (Int × Int)} (h : rideB ls es = true) : es ≠ [] ∧ (∀ e ∈ es, EndOk ls.length e) ∧ (es.map Prod.fst).Nodup ∧ ∀ q ∈ es.zip es.tail, goesB ls q.1 q.2 = true := by
  unfold rideB at h
  simp only [Bool.and_eq_true, decide_eq_true_eq, List.all_eq_true] at h
  exact ⟨h.1.1.1, h.1.1.2, h.1.2, h.2⟩
def lenD (d : D) : Nat := ((seqOf d).getD []).length
theorem lenD_of {d : D} {xs : List D} (s : Sq d xs) : lenD d = xs.length := by unfold lenD; rw [s.of]; rfl
theorem cut_one {α : Type} (xs : List α) : cutL xs (some 1) none = xs.tail := by rw [cut_from (by decide), show (1 : Int).toNat = 1 from rfl, List.drop_one]
theorem x_ride_is {w : D} {p : Int} {ls : List Ln} (hw : Web w p ls) (h : WbOk p ls) (d : D) (hz : lenD d ≤ 4000) : m_ride_is [w, d] = some (.bool (rideD ls d)) := by
  unfold m_ride_is; refine mF_of ?_; walk_at "i"; unfold g_ride_is
  walk_at "e"
  rw [isi_seq]
  refine ⟨fun h1 => ?_, fun h1 => ?_⟩
  rotate_left
  · walk_at "t"
    walk_at "e"
    have h1 : seqOf d = none := by simpa using h1
    unfold rideD; rw [h1]
    simp
  obtain ⟨xs, hx⟩ := Option.isSome_iff_exists.mp (show (seqOf d).isSome = true by simpa using h1)
  have s := sq_of hx
  rw [lenD_of s] at hz
  have ed : rideD ls d = (xs.all (endD ls.length) && rideB ls (xs.map unEn)) := by unfold rideD; rw [hx]
  rw [ed]
  walk_at "e"
  refine ed_lenQ s ?_
  walk_at "e"
  refine ⟨fun hn => ?_, fun hn => ?_⟩
  rotate_left
  · walk_at "t"
    walk_at "e"
    have : xs = [] := by
      have hn := of_decide_eq_true hn
      exact List.length_eq_zero_iff.mp (by omega)
    simp [this, rideB]
  walk_at "e"
  refine ev_mapX (xs := xs) (enc := fun z => z) (g := fun z => .bool (endD ls.length z)) ?_
  walk_at "e"
  refine ed_itQ s ⟨by simp, fun z hz => ?_, ?_⟩
  · walk_at "e"
    exact Ed.of (x_is_end hw z) ⟨rfl, rfl⟩
  walk_at "e"
  refine all_mapX (endD ls.length) xs ?_
  walk_at "e"
  refine ⟨fun ha => ?_, fun ha => ?_⟩
  · walk_at "e"
    have ha : xs.all (endD ls.length) = false := by simpa using ha
    simp [ha]
  have ha : xs.all (endD ls.length) = true := by simpa using ha
  obtain ⟨ps, rfl, hp, hk⟩ := seq_ride ha
  rw [map_unEn hp, ha, Bool.true_and]
  have hnn : ps.map (·.2) ≠ [] := by
    intro z
    have : ps = [] := List.map_eq_nil_iff.mp z
    rw [this] at hn; simp at hn
  have hall : ∀ e ∈ ps.map (·.2), EndOk ls.length e := fun e he => by
    obtain ⟨q, hq, rfl⟩ := List.mem_map.mp he
    exact hk q hq
  have h1 : (ps.map (·.2)).all (fun e => decide (EndOk ls.length e)) = true := List.all_eq_true.mpr fun e he => decide_eq_true (hall e he)
  unfold rideB
  rw [decide_eq_true hnn, h1, Bool.true_and, Bool.true_and]
  walk_at "e"
  refine ev_mapX (xs := ps) (enc := (·.1)) (g := fun q => .int q.2.1) ?_
  walk_at "e"
  refine ed_itQ s ⟨rfl, fun q hq => ?_, ?_⟩
  · walk_at "e"
    refine ed_ixQ (hp q hq) (by decide) rfl ⟨rfl, rfl⟩
  have e1 : ps.map (fun q => PyData.int q.2.1) = ((ps.map (·.2)).map Prod.fst).map PyData.int := by rw [List.map_map, List.map_map]; rfl
  rw [e1]
  walk_at "e"
  refine ed_lenSet (by simpa using hz) ?_
  walk_at "e"
  refine ed_lenQ s ?_
  walk_at "e"
  have e2 : (((unlike ((ps.map (·.2)).map Prod.fst) : Nat) : Int) = ((ps.map (·.1)).length : Int)) ↔ ((ps.map (·.2)).map Prod.fst).Nodup := by
    rw [← unlike_iff]
    simp only [List.length_map]
    omega
  refine ⟨fun hd => ?_, fun hd => ?_⟩
  · walk_at "e"
    have hd : ¬ ((ps.map (·.2)).map Prod.fst).Nodup := by
      rw [← e2]
      simpa using hd
    rw [decide_eq_false hd]; rfl
  have hd : ((ps.map (·.2)).map Prod.fst).Nodup := by
    rw [← e2]
    simpa using hd
  rw [decide_eq_true hd, Bool.true_and]
  walk_at "e"
  refine ev_mapX (xs := ps.zip ps.tail) (enc := fun z => .tuple [z.1.1, z.2.1]) (g := fun z => .bool (goesB ls z.1.2 z.2.2)) ?_
  have tl : (ps.map (·.1)).tail = ps.tail.map (·.1) := by rw [List.map_tail]
  have ez : zipD (ps.map (·.1)) ((ps.map (·.1)).tail) = (ps.zip ps.tail).map fun z => .tuple [z.1.1, z.2.1] := by
    rw [tl, zipD_map]
  refine ev_zip ?_
  rcases s with rfl | rfl
  · walk_at "e"
    rw [cut_one]
    refine .inl ⟨_, _, rfl, ez, fun z hz => ?_, ?_⟩
    · obtain ⟨m1, m2⟩ := List.of_mem_zip hz
      walk_at "e"
      exact Ed.of (x_can_go_on hw h (hp _ m1) (hp _ (List.mem_of_mem_tail m2)) (hk _ m1) (hk _ (List.mem_of_mem_tail m2))) ⟨rfl, rfl⟩
    · walk_at "e"
      refine all_mapX (fun z : (D × (Int × Int)) × (D × (Int × Int)) => goesB ls z.1.2 z.2.2) _ ?_
      rw [gives_rtI, ← List.map_tail, List.zip_map, List.all_map]
      rfl
  · walk_at "e"
    rw [cut_one]
    refine .inr ⟨_, _, rfl, ez, fun z hz => ?_, ?_⟩
    · obtain ⟨m1, m2⟩ := List.of_mem_zip hz
      walk_at "e"
      exact Ed.of (x_can_go_on hw h (hp _ m1) (hp _ (List.mem_of_mem_tail m2)) (hk _ m1) (hk _ (List.mem_of_mem_tail m2))) ⟨rfl, rfl⟩
    · walk_at "e"
      refine all_mapX (fun z : (D × (Int × Int)) × (D × (Int × Int)) => goesB ls z.1.2 z.2.2) _ ?_
      rw [gives_rtI, ← List.map_tail, List.zip_map, List.all_map]
      rfl
theorem ride_round {ls : List Ln} {d : D} : roundD ls d = (rideD ls d && match seqOf d with
    | some xs => goesB ls (lastE (xs.map unEn)) (headE (xs.map unEn))
    | none => false) := by
  unfold roundD rideD roundB
  cases seqOf d with
  | none => rfl
  | some xs => simp only [Bool.and_assoc]
theorem last_map {ps : List (D × (Int × Int))} (h : ps ≠ []) : ∃ q, q ∈ ps ∧ (ps.map (·.1)).getLast? = some q.1 ∧ lastE (ps.map (·.2)) = q.2 := by
  refine ⟨ps.getLast h, List.getLast_mem h, ?_, ?_⟩
  · rw [List.getLast?_map, List.getLast?_eq_some_getLast h]; rfl
  · unfold lastE
    rw [List.getLast?_map, List.getLast?_eq_some_getLast h]; rfl
theorem head_map {ps : List (D × (Int × Int))} (h : ps ≠ []) : ∃ q, q ∈ ps ∧ (ps.map (·.1))[0]? = some q.1 ∧ headE (ps.map (·.2)) = q.2 := by
  cases ps with
  | nil => exact absurd rfl h
  | cons q ps => exact ⟨q, List.mem_cons_self, rfl, rfl⟩
theorem x_round_is {w : D} {p : Int} {ls : List Ln} (hw : Web w p ls) (h : WbOk p ls) (d : D) (hz : lenD d ≤ 4000) : m_round_is [w, d] = some (.bool (roundD ls d)) := by
  unfold m_round_is; refine mF_of ?_; walk_at "i"; unfold g_round_is
  walk_at "e"
  refine Ed.of (x_ride_is hw h d hz) ?_
  rw [ride_round]
  walk_at "e"
  refine ⟨fun hr => ?_, fun hr => by simp [hr]⟩
  obtain ⟨es, ⟨ps, s, rfl, hp⟩, hb⟩ := of_rideD hr
  obtain ⟨hn, hall, _, _⟩ := rideB_ends hb
  have hn : ps ≠ [] := fun z => hn (by rw [z]; rfl)
  obtain ⟨a, ha, la, la2⟩ := last_map hn
  obtain ⟨b, hb, lb, lb2⟩ := head_map hn
  walk_at "e"
  refine ed_lastQ s la ?_
  walk_at "e"
  refine ed_ixQ s (by decide) lb ?_
  walk_at "e"
  refine Ed.of (x_can_go_on hw h (hp _ ha) (hp _ hb) (hall _ (List.mem_map_of_mem ha)) (hall _ (List.mem_map_of_mem hb))) ?_
  walk_at "e"
  rw [s.of]
  simp only [map_unEn hp, la2, lb2, hr, Bool.true_and]
  rfl
end

end Lw

set_option maxHeartbeats 4000000
namespace Lw
open PySem Fu
local macro_rules | `(tactic| walk_at "e1") => `(tactic| first
  | with_reducible refine eo_seq ?_ | (with_reducible refine then_nx' ?_; refine ⟨?_, ?_, ?_⟩; rotate_left; · (try dsimp only [List.set, List.length_cons, List.length_nil, List.cons_append, List.nil_append, Nat.zero_add, Nat.reduceAdd]); exact rfl) | with_reducible refine then_rt ?_ | with_reducible refine eo_if ?_ | with_reducible refine eo_ret ?_ | with_reducible refine eo_set ?_ | with_reducible refine eo_asg ?_ | with_reducible refine eo_drop ?_ | with_reducible refine eo_nx ?_ | with_reducible refine eo_par ?_ | with_reducible refine eo_own ?_ | with_reducible refine eo_retN ?_ | with_reducible refine eo_for ?_ | with_reducible refine eo_retO ?_
  | with_reducible refine ev_c ?_ | (with_reducible refine ev_var ?_; refine ⟨_, rfl, ?_⟩) | with_reducible refine ev_bin ?_ | with_reducible refine ev_un ?_ | with_reducible refine ev_nil ?_ | with_reducible refine ev_cons ?_
  | with_reducible refine ev_tup ?_ | with_reducible refine ev_lst ?_ | with_reducible refine ev_call ?_ | with_reducible refine ev_callF ?_ | with_reducible refine ev_isi ?_ | with_reducible refine ev_isi2 ?_ | with_reducible refine ev_andV ?_ | with_reducible refine ev_orV ?_ | with_reducible refine ev_notV ?_
  | with_reducible refine ev_B ?_ | with_reducible refine ev_and ?_ | with_reducible refine ev_or ?_ | with_reducible refine ev_not ?_ | with_reducible refine ev_yes ?_ | with_reducible refine ev_if ?_ | with_reducible refine ev_no ?_ | with_reducible refine ev_so ?_ | with_reducible refine ev_sl ?_ | with_reducible refine ev_items ?_
  | (with_reducible refine ev_ixO ?_; refine ⟨_, _, rfl, rfl, ?_⟩) | (with_reducible refine ev_varO ?_; refine ⟨_, _, rfl, rfl, ?_⟩) | (with_reducible refine ev_lenO ?_; refine ⟨_, _, rfl, rfl, ?_⟩) | (with_reducible refine ev_scrSl ?_; refine ⟨_, rfl, ?_⟩) | (with_reducible refine ev_scrLen ?_; refine ⟨_, rfl, ?_⟩) | (with_reducible refine ev_callScr ?_; refine ⟨_, rfl, ?_⟩) | (with_reducible refine ev_OL ?_; refine ⟨_, _, rfl, rfl, ?_⟩) | with_reducible refine ev_OR ?_ | with_reducible refine ev_rep ?_ | with_reducible refine ev_listRng1 ?_ | with_reducible refine eo_setO ?_
  | with_reducible refine es_name ?_ | with_reducible refine es_tup2 ?_ | with_reducible refine es_tup3 ?_
  | with_reducible refine ed_addI ?_ | with_reducible refine ed_subI ?_ | with_reducible refine ed_cmp ?_ | with_reducible refine ed_eqI ?_ | with_reducible refine ed_neI ?_ | with_reducible refine ed_slT ?_ | with_reducible refine ed_slL ?_ | with_reducible refine ed_lenT ?_ | with_reducible refine ed_lenL ?_ | with_reducible refine ed_lenS ?_ | with_reducible refine ed_inS ?_ | with_reducible refine ed_itT ?_ | with_reducible refine ed_itL ?_ | with_reducible refine ed_tupL ?_ | with_reducible refine ed_tupT ?_ | with_reducible refine ed_listL ?_ | with_reducible refine ed_listT ?_ | with_reducible refine ed_neg ?_ | with_reducible refine ed_max ?_ | with_reducible refine ed_min ?_ | with_reducible refine ed_intB ?_)
local macro_rules | `(tactic| walk_at "e2") => `(tactic| first
  | walk_at "e1" | with_reducible refine ⟨_, rfl, ?_⟩ | with_reducible refine ⟨_, _, rfl, ?_⟩
  | with_reducible refine And.intro (Eq.refl (List.length _)) ?_ | with_reducible refine And.intro (Nat.le_of_ble_eq_true (n := List.length _) rfl) ?_
  | with_reducible refine And.intro (Eq.refl (_ : Sx)) (?_ : Ed _ _)
  | with_reducible exact gives_nx | with_reducible (refine gives_rt ?_; rfl))
local macro_rules | `(tactic| walk_at "e") => `(tactic| repeat walk_at "e2")
/-- begin a def's spec -/
local macro_rules | `(tactic| walk_at "i") => `(tactic| simp only [initS, List.map_cons, List.map_nil, List.length_cons, List.length_nil, Nat.reduceAdd, Nat.reduceSub, List.replicate, List.cons_append, List.nil_append])

section
def rv (es : List (Int × Int)) : List (Int × Int) := es.reverse.map far
def rot (k : Nat) (es : List (Int × Int)) : List (Int × Int) := es.drop k ++ es.take k
def ways (es : List (Int × Int)) : List (List (Int × Int)) := ((List.range es.length).map fun k => rot k es) ++ ((List.range es.length).map fun k => rot k (rv es))
theorem rv_len (es : List (Int × Int)) : (rv es).length = es.length := by simp [rv]
theorem rot_len (k : Nat) (es : List (Int × Int)) : (rot k es).length = es.length := by simp [rot]; omega
/-! ### rounds and rides, in plain words -/
def chain (ls : List Ln) : List (Int × Int) → Bool
  | [] => true
  | [_] => true
  | e :: f :: r => goesB ls e f && chain ls (f :: r)
theorem chain_zip (ls : List Ln) : ∀ es : List (Int × Int), ((es.zip es.tail).all fun q => goesB ls q.1 q.2) = chain ls es
  | [] => rfl
  | [_] => rfl
  | e :: f :: r => by
    have := chain_zip ls (f :: r)
    simp only [List.tail_cons, List.zip_cons_cons, List.all_cons, chain] at this ⊢
    rw [this]
theorem lastE_cons {e f : Int × Int} {r : List (Int × Int)} : lastE (e :: f :: r) = lastE (f :: r) := by simp [lastE]
theorem lastE_one {e : Int × Int} : lastE [e] = e := rfl
theorem lastE_app {a b : List (Int × Int)} (h : b ≠ []) : lastE (a ++ b) = lastE b := by
  unfold lastE
  rw [List.getLast?_append]
  cases hb : b.getLast? with
  | none => exact absurd (List.getLast?_eq_none_iff.mp hb) h
  | some x => rfl
theorem headE_app {a b : List (Int × Int)} (h : a ≠ []) : headE (a ++ b) = headE a := by
  cases a with
  | nil => exact absurd rfl h
  | cons x a => rfl
theorem chain_app (ls : List Ln) : ∀ a b : List (Int × Int), chain ls (a ++ b) = true ↔ chain ls a = true ∧ chain ls b = true ∧ (a ≠ [] → b ≠ [] → goesB ls (lastE a) (headE b) = true)
  | [], b => by simp [chain]
  | [e], [] => by simp [chain]
  | [e], f :: r => by
    show (goesB ls e f && chain ls (f :: r)) = true ↔ _
    simp only [Bool.and_eq_true, chain, true_and, lastE_one, headE, List.head?_cons, Option.getD_some]
    exact ⟨fun h => ⟨h.2, fun _ _ => h.1⟩, fun h => ⟨h.2 (by simp) (by simp), h.1⟩⟩
  | e :: f :: r, b => by
    show (goesB ls e f && chain ls ((f :: r) ++ b)) = true ↔ _
    rw [Bool.and_eq_true, chain_app ls (f :: r) b, lastE_cons]
    simp only [chain, Bool.and_eq_true]
    exact ⟨fun h => ⟨⟨h.1, h.2.1⟩, h.2.2.1, fun _ => h.2.2.2 (by simp)⟩, fun h => ⟨h.1.1, h.1.2, h.2.1, fun _ => h.2.2 (by simp)⟩⟩
theorem rideB_iff {ls : List Ln} {es : List (Int × Int)} : rideB ls es = true ↔ es ≠ [] ∧ (∀ e ∈ es, EndOk ls.length e) ∧ (es.map Prod.fst).Nodup ∧ chain ls es = true := by
  unfold rideB
  rw [chain_zip]
  simp only [Bool.and_eq_true, decide_eq_true_eq, List.all_eq_true]
  exact ⟨fun h => ⟨h.1.1.1, h.1.1.2, h.1.2, h.2⟩, fun h => ⟨⟨⟨h.1, h.2.1⟩, h.2.2.1⟩, h.2.2.2⟩⟩
theorem roundB_iff {ls : List Ln} {es : List (Int × Int)} : roundB ls es = true ↔ rideB ls es = true ∧ goesB ls (lastE es) (headE es) = true := by
  unfold roundB
  rw [Bool.and_eq_true]
theorem round_swap {ls : List Ln} {a b : List (Int × Int)} (h : roundB ls (a ++ b) = true) : roundB ls (b ++ a) = true := by
  by_cases ha : a = []
  · subst ha; simpa using h
  by_cases hb : b = []
  · subst hb; simpa using h
  rw [roundB_iff, rideB_iff, chain_app] at h ⊢
  obtain ⟨⟨h1, h2, h3, h4, h5, h6⟩, h7⟩ := h
  rw [lastE_app hb, headE_app ha] at h7
  rw [lastE_app ha, headE_app hb]
  refine ⟨⟨by simp [ha], fun e he => h2 e (List.mem_append.mpr (List.mem_append.mp he).symm), ?_, h5, h4, fun _ _ => h7⟩, h6 ha hb⟩
  rw [List.map_append] at h3 ⊢
  exact (List.perm_append_comm.nodup_iff).mp h3
theorem round_rot {ls : List Ln} {es : List (Int × Int)} (k : Nat) (h : roundB ls es = true) : roundB ls (rot k es) = true := by
  unfold rot
  rw [← List.take_append_drop k es] at h
  exact round_swap h
theorem rv_cons (e : Int × Int) (es : List (Int × Int)) : rv (e :: es) = rv es ++ [far e] := by simp [rv]
theorem rv_rv (es : List (Int × Int)) : rv (rv es) = es := by
  unfold rv
  rw [← List.map_reverse, List.reverse_reverse, List.map_map]
  have : far ∘ far = id := by funext e; exact far_far e
  rw [this, List.map_id]
theorem rv_ne {es : List (Int × Int)} (h : es ≠ []) : rv es ≠ [] := fun z => by
  have := congrArg List.length z
  rw [rv_len] at this
  exact h (List.length_eq_zero_iff.mp this)
theorem lastE_rv {es : List (Int × Int)} (h : es ≠ []) : lastE (rv es) = far (headE es) := by
  cases es with
  | nil => exact absurd rfl h
  | cons e es => rw [rv_cons, lastE_app (by simp)]; rfl
theorem headE_rv {es : List (Int × Int)} (h : es ≠ []) : headE (rv es) = far (lastE es) := by
  have := lastE_rv (rv_ne h)
  rw [rv_rv] at this
  rw [this, far_far]
theorem chain_rv (ls : List Ln) : ∀ es : List (Int × Int), chain ls es = true → chain ls (rv es) = true
  | [], _ => rfl
  | [e], _ => rfl
  | e :: f :: r, h => by
    simp only [chain, Bool.and_eq_true] at h
    rw [rv_cons, chain_app]
    refine ⟨chain_rv ls _ h.2, rfl, fun _ _ => ?_⟩
    rw [lastE_rv (by simp)]
    show goesB ls (far f) (far e) = true
    rw [goes_far]; exact h.1
theorem ride_rv {ls : List Ln} {es : List (Int × Int)} (h : rideB ls es = true) : rideB ls (rv es) = true := by
  rw [rideB_iff] at h ⊢
  obtain ⟨h1, h2, h3, h4⟩ := h
  refine ⟨rv_ne h1, fun e he => ?_, ?_, chain_rv ls es h4⟩
  · obtain ⟨f, hf, rfl⟩ := List.mem_map.mp he
    exact (h2 f (List.mem_reverse.mp hf)).far
  · unfold rv
    rw [List.map_map, show Prod.fst ∘ far = (Prod.fst : Int × Int → Int) from rfl, List.map_reverse]
    exact ((List.reverse_perm _).nodup_iff).mpr h3
theorem round_rv {ls : List Ln} {es : List (Int × Int)} (h : roundB ls es = true) : roundB ls (rv es) = true := by
  rw [roundB_iff] at h ⊢
  have hn := (rideB_iff.mp h.1).1
  refine ⟨ride_rv h.1, ?_⟩
  rw [lastE_rv hn, headE_rv hn, goes_far]
  exact h.2
theorem rot_get {es : List (Int × Int)} {k i : Nat} (hk : k ≤ es.length) (hi : i < es.length) : (rot k es)[i]? = es[if i + k < es.length then i + k else i + k - es.length]? := by
  unfold rot
  rw [List.getElem?_append, List.length_drop]
  by_cases h : i + k < es.length
  · rw [if_pos (by omega), if_pos h, List.getElem?_drop, Nat.add_comm]
  · rw [if_neg (by omega), if_neg h, List.getElem?_take, if_pos (by omega), show i - (es.length - k) = i + k - es.length by omega]
theorem rot_ext {a b : List (Int × Int)} (hl : a.length = b.length) (h : ∀ i, i < a.length → a[i]? = b[i]?) : a = b := by
  apply List.ext_getElem?
  intro i
  by_cases hi : i < a.length
  · exact h i hi
  · rw [List.getElem?_eq_none (by omega), List.getElem?_eq_none (by omega)]
theorem rot_rot {es : List (Int × Int)} {j k : Nat} (hj : j < es.length) (hk : k < es.length) : ∃ i, i < es.length ∧ rot j (rot k es) = rot i es := by
  refine ⟨if j + k < es.length then j + k else j + k - es.length, by split <;> omega, rot_ext (by simp only [rot_len]) fun i hi => ?_⟩
  simp only [rot_len] at hi
  have hx : (if i + j < es.length then i + j else i + j - es.length) < es.length := by split <;> omega
  rw [rot_get (by rw [rot_len]; omega) (by rw [rot_len]; exact hi), rot_len, rot_get (by omega) hx, rot_get (by split <;> omega) hi]
  congr 1
  split <;> split <;> split <;> split <;> omega
theorem rot_zero (es : List (Int × Int)) : rot 0 es = es := by simp [rot]
theorem rot_full (es : List (Int × Int)) : rot es.length es = es := by simp [rot]
theorem rot_back {es : List (Int × Int)} {k : Nat} (hk : k ≤ es.length) : rot (es.length - k) (rot k es) = es := by
  refine rot_ext (by simp only [rot_len]) fun i hi => ?_
  simp only [rot_len] at hi
  have hx : (if i + (es.length - k) < es.length then i + (es.length - k) else i + (es.length - k) - es.length) < es.length := by split <;> omega
  rw [rot_get (by rw [rot_len]; omega) (by rw [rot_len]; exact hi), rot_len, rot_get hk hx]
  congr 1
  split <;> split <;> omega
theorem rv_rot {es : List (Int × Int)} {k : Nat} (hk : k ≤ es.length) : rv (rot k es) = rot (es.length - k) (rv es) := by
  unfold rot rv
  rw [List.reverse_append, List.map_append, ← List.map_drop, ← List.map_take]
  congr 2
  · rw [List.drop_reverse, show es.length - (es.length - k) = k by omega]
  · rw [List.take_reverse, show es.length - (es.length - k) = k by omega]
theorem mem_ways {es w : List (Int × Int)} : w ∈ ways es ↔ ∃ k, k < es.length ∧ (w = rot k es ∨ w = rot k (rv es)) := by
  unfold ways
  simp only [List.mem_append, List.mem_map, List.mem_range]
  constructor
  · rintro (⟨k, hk, rfl⟩ | ⟨k, hk, rfl⟩)
    · exact ⟨k, hk, .inl rfl⟩
    · exact ⟨k, hk, .inr rfl⟩
  · rintro ⟨k, hk, rfl | rfl⟩
    · exact .inl ⟨k, hk, rfl⟩
    · exact .inr ⟨k, hk, rfl⟩
theorem ways_rot_sub {es w : List (Int × Int)} {k : Nat} (hk : k < es.length) (h : w ∈ ways (rot k es)) : w ∈ ways es := by
  rw [mem_ways] at h ⊢
  rw [rot_len] at h
  obtain ⟨j, hj, rfl | rfl⟩ := h
  · obtain ⟨i, hi, e⟩ := rot_rot hj hk
    exact ⟨i, hi, .inl e⟩
  · rw [rv_rot (by omega)]
    by_cases h0 : k = 0
    · subst h0
      refine ⟨j, hj, .inr ?_⟩
      rw [Nat.sub_zero, ← rv_len es, rot_full]
    · obtain ⟨i, hi, e⟩ := rot_rot (es := rv es) (j := j) (k := es.length - k) (by rw [rv_len]; exact hj) (by rw [rv_len]; omega)
      rw [rv_len] at hi
      exact ⟨i, hi, .inr e⟩
theorem ways_rot {es w : List (Int × Int)} {k : Nat} (hk : k < es.length) : w ∈ ways (rot k es) ↔ w ∈ ways es := by
  refine ⟨ways_rot_sub hk, fun h => ?_⟩
  by_cases h0 : k = 0
  · subst h0; rwa [rot_zero]
  · refine ways_rot_sub (es := rot k es) (k := es.length - k) (by rw [rot_len]; omega) ?_
    rwa [rot_back (by omega)]
theorem ways_rv {es w : List (Int × Int)} : w ∈ ways (rv es) ↔ w ∈ ways es := by
  rw [mem_ways, mem_ways, rv_len, rv_rv]
  exact ⟨fun ⟨k, hk, h⟩ => ⟨k, hk, h.symm⟩, fun ⟨k, hk, h⟩ => ⟨k, hk, h.symm⟩⟩
theorem ways_round {ls : List Ln} {es w : List (Int × Int)} (h : roundB ls es = true) (hw : w ∈ ways es) : roundB ls w = true := by
  obtain ⟨k, hk, rfl | rfl⟩ := mem_ways.mp hw
  · exact round_rot k h
  · exact round_rot k (round_rv h)
/-! ### the least of all ways -/
theorem toks_en (e : Int × Int) : PySem.W.keyToks (en e) = [.inl 1, .inl e.1, .inl 1, .inl e.2, .inl 0] := by
  unfold en
  simp [PySem.W.keyToks, PySem.W.keyToksAll]
theorem toks_inj : ∀ es fs : List (Int × Int), PySem.W.keyToks (lE es) = PySem.W.keyToks (lE fs) → es = fs
  | [], [], _ => rfl
  | [], f :: fs, h => by simp [lE, PySem.W.keyToks, PySem.W.keyToksAll] at h
  | e :: es, [], h => by simp [lE, PySem.W.keyToks, PySem.W.keyToksAll] at h
  | e :: es, f :: fs, h => by
    simp only [lE, PySem.W.keyToks, List.map_cons, PySem.W.keyToksAll, toks_en, List.cons_append, List.nil_append, List.cons.injEq, Sum.inl.injEq, true_and] at h
    obtain ⟨h1, h2, h3⟩ := h
    have := toks_inj es fs (by simpa [lE, PySem.W.keyToks] using h3)
    rw [this, show e = f from Prod.ext h1 h2]
theorem lt_irr (a : D) : PySem.W.dataLt a a = false := (PyProof.Rows.listOrd PyProof.Rows.itemOrd).irrefl _
theorem lt_neg {a b c : D} (h1 : PySem.W.dataLt a b = false) (h2 : PySem.W.dataLt b c = false) : PySem.W.dataLt a c = false := by
  cases h : PySem.W.dataLt a c with
  | false => rfl
  | true =>
    rcases (PyProof.Rows.listOrd PyProof.Rows.itemOrd).negTrans (PySem.W.keyToks a) (PySem.W.keyToks b) (PySem.W.keyToks c) h with g | g
    · exact absurd (show PySem.W.dataLt a b = true from g) (by rw [h1]; simp)
    · exact absurd (show PySem.W.dataLt b c = true from g) (by rw [h2]; simp)
theorem lt_asym {a b : D} (h : PySem.W.dataLt a b = true) : PySem.W.dataLt b a = false := by
  cases h2 : PySem.W.dataLt b a with
  | false => rfl
  | true =>
    have := (PyProof.Rows.listOrd PyProof.Rows.itemOrd).trans (PySem.W.keyToks a) (PySem.W.keyToks b) (PySem.W.keyToks a) h h2
    rw [show (PyProof.Rows.listOrd PyProof.Rows.itemOrd).blt (PySem.W.keyToks a) (PySem.W.keyToks a) = false from lt_irr a] at this
    cases this
theorem min_spec : ∀ (xs : List D) (x : D), PySem.W.minD x xs ∈ x :: xs ∧ ∀ y ∈ x :: xs, PySem.W.dataLt y (PySem.W.minD x xs) = false
  | [], x => ⟨List.mem_cons_self, fun y hy => by rw [List.mem_singleton.mp hy]; exact lt_irr x⟩
  | z :: zs, x => by
    have e : PySem.W.minD x (z :: zs) = PySem.W.minD (if PySem.W.dataLt z x then z else x) zs := rfl
    obtain ⟨h1, h2⟩ := min_spec zs (if PySem.W.dataLt z x then z else x)
    rw [← e] at h1 h2
    by_cases hz : PySem.W.dataLt z x = true
    · rw [if_pos hz] at h1 h2
      refine ⟨List.mem_cons_of_mem _ h1, fun y hy => ?_⟩
      rcases List.mem_cons.mp hy with rfl | hy
      · exact lt_neg (lt_asym hz) (h2 z List.mem_cons_self)
      · exact h2 y hy
    · rw [if_neg hz] at h1 h2
      have hz : PySem.W.dataLt z x = false := by simpa using hz
      refine ⟨?_, fun y hy => ?_⟩
      · rcases List.mem_cons.mp h1 with g | g
        · rw [g]; exact List.mem_cons_self
        · exact List.mem_cons_of_mem _ (List.mem_cons_of_mem _ g)
      · rcases List.mem_cons.mp hy with rfl | hy
        · exact h2 _ List.mem_cons_self
        · rcases List.mem_cons.mp hy with rfl | hy
          · exact lt_neg hz (h2 x List.mem_cons_self)
          · exact h2 y (List.mem_cons_of_mem _ hy)
/-- the least one of the ways -/
def IsLeast (ws : List (List (Int × Int))) (m : List (Int × Int)) : Prop := m ∈ ws ∧ ∀ w ∈ ws, PySem.W.dataLt (lE w) (lE m) = false
theorem least_unique {ws vs : List (List (Int × Int))} {m n : List (Int × Int)} (h : IsLeast ws m) (k : IsLeast vs n) (e : ∀ w, w ∈ ws ↔ w ∈ vs) : m = n := by
  have h1 := h.2 n ((e n).mpr k.1)
  have h2 := k.2 m ((e m).mp h.1)
  exact toks_inj m n ((PyProof.Rows.listOrd PyProof.Rows.itemOrd).total _ _ h2 h1)
theorem min_least {w : List (Int × Int)} {ws : List (List (Int × Int))} : ∃ m, PySem.W.minD (lE w) (ws.map lE) = lE m ∧ IsLeast (w :: ws) m := by
  obtain ⟨h1, h2⟩ := min_spec (ws.map lE) (lE w)
  rw [← List.map_cons] at h1
  obtain ⟨m, hm, e⟩ := List.mem_map.mp h1
  refine ⟨m, e.symm, hm, fun v hv => ?_⟩
  have := h2 (lE v) (by rw [← List.map_cons]; exact List.mem_map_of_mem hv)
  rwa [← e] at this
end

end Lw

set_option maxHeartbeats 4000000
namespace Lw
open PySem Fu
local macro_rules | `(tactic| walk_at "e1") => `(tactic| first
  | with_reducible refine eo_seq ?_ | (with_reducible refine then_nx' ?_; refine ⟨?_, ?_, ?_⟩; rotate_left; · (try dsimp only [List.set, List.length_cons, List.length_nil, List.cons_append, List.nil_append, Nat.zero_add, Nat.reduceAdd]); exact rfl) | with_reducible refine then_rt ?_ | with_reducible refine eo_if ?_ | with_reducible refine eo_ret ?_ | with_reducible refine eo_set ?_ | with_reducible refine eo_asg ?_ | with_reducible refine eo_drop ?_ | with_reducible refine eo_nx ?_ | with_reducible refine eo_par ?_ | with_reducible refine eo_own ?_ | with_reducible refine eo_retN ?_ | with_reducible refine eo_for ?_ | with_reducible refine eo_retO ?_
  | with_reducible refine ev_c ?_ | (with_reducible refine ev_var ?_; refine ⟨_, rfl, ?_⟩) | with_reducible refine ev_bin ?_ | with_reducible refine ev_un ?_ | with_reducible refine ev_nil ?_ | with_reducible refine ev_cons ?_
  | with_reducible refine ev_tup ?_ | with_reducible refine ev_lst ?_ | with_reducible refine ev_call ?_ | with_reducible refine ev_callF ?_ | with_reducible refine ev_isi ?_ | with_reducible refine ev_isi2 ?_ | with_reducible refine ev_andV ?_ | with_reducible refine ev_orV ?_ | with_reducible refine ev_notV ?_
  | with_reducible refine ev_B ?_ | with_reducible refine ev_and ?_ | with_reducible refine ev_or ?_ | with_reducible refine ev_not ?_ | with_reducible refine ev_yes ?_ | with_reducible refine ev_if ?_ | with_reducible refine ev_no ?_ | with_reducible refine ev_so ?_ | with_reducible refine ev_sl ?_ | with_reducible refine ev_items ?_
  | (with_reducible refine ev_ixO ?_; refine ⟨_, _, rfl, rfl, ?_⟩) | (with_reducible refine ev_varO ?_; refine ⟨_, _, rfl, rfl, ?_⟩) | (with_reducible refine ev_lenO ?_; refine ⟨_, _, rfl, rfl, ?_⟩) | (with_reducible refine ev_scrSl ?_; refine ⟨_, rfl, ?_⟩) | (with_reducible refine ev_scrLen ?_; refine ⟨_, rfl, ?_⟩) | (with_reducible refine ev_callScr ?_; refine ⟨_, rfl, ?_⟩) | (with_reducible refine ev_OL ?_; refine ⟨_, _, rfl, rfl, ?_⟩) | with_reducible refine ev_OR ?_ | with_reducible refine ev_rep ?_ | with_reducible refine ev_listRng1 ?_ | with_reducible refine eo_setO ?_
  | with_reducible refine es_name ?_ | with_reducible refine es_tup2 ?_ | with_reducible refine es_tup3 ?_
  | with_reducible refine ed_addI ?_ | with_reducible refine ed_subI ?_ | with_reducible refine ed_cmp ?_ | with_reducible refine ed_eqI ?_ | with_reducible refine ed_neI ?_ | with_reducible refine ed_slT ?_ | with_reducible refine ed_slL ?_ | with_reducible refine ed_lenT ?_ | with_reducible refine ed_lenL ?_ | with_reducible refine ed_lenS ?_ | with_reducible refine ed_inS ?_ | with_reducible refine ed_itT ?_ | with_reducible refine ed_itL ?_ | with_reducible refine ed_tupL ?_ | with_reducible refine ed_tupT ?_ | with_reducible refine ed_listL ?_ | with_reducible refine ed_listT ?_ | with_reducible refine ed_neg ?_ | with_reducible refine ed_max ?_ | with_reducible refine ed_min ?_ | with_reducible refine ed_intB ?_
  | with_reducible refine ev_rng1 ?_ | with_reducible refine ev_rng2 ?_)
local macro_rules | `(tactic| walk_at "sd") => `(tactic| first | rfl | assumption | (simp only [decide_eq_true_eq, decide_eq_false_iff_not, Bool.not_eq_true', Bool.not_eq_false', Bool.and_eq_true, Bool.or_eq_true, List.length_map, List.length_cons, List.length_nil, List.length_append, List.length_range] at *; omega))
local macro_rules | `(tactic| walk_at "e2") => `(tactic| first
  | walk_at "e1" | with_reducible refine ⟨_, rfl, ?_⟩ | with_reducible refine ⟨_, _, rfl, ?_⟩
  | with_reducible refine And.intro (Eq.refl (List.length _)) ?_ | with_reducible refine And.intro (Nat.le_of_ble_eq_true (n := List.length _) rfl) ?_
  | with_reducible refine And.intro (Eq.refl (_ : Sx)) (?_ : Ed _ _)
  | ((with_reducible refine And.intro ?_ (And.intro ?_ (?_ : Ev _ _))); (· rfl); (· rfl))
  | ((with_reducible refine ed_ixT ?_ ?_ ?_); (· decide); (· rfl)) | ((with_reducible refine ed_ixL ?_ ?_ ?_); (· decide); (· rfl)) | ((with_reducible refine ed_at ?_ ?_ ?_); (· decide); (· rfl))
  | ((with_reducible refine ed_modI ?_ ?_); (· first | decide | omega))
  | with_reducible exact gives_nx | ((with_reducible refine gives_rt ?_); (· rfl)) | ((with_reducible refine And.intro ?_ ?_); (· exact rfl); (· with_reducible exact Eq.refl (_ : Sx))))
local macro_rules | `(tactic| walk_at "e") => `(tactic| repeat walk_at "e2")
/-- begin a def's spec -/
local macro_rules | `(tactic| walk_at "i") => `(tactic| simp only [initS, List.map_cons, List.map_nil, List.length_cons, List.length_nil, Nat.reduceAdd, Nat.reduceSub, List.replicate, List.cons_append, List.nil_append])
/-- a known truth decides -/
local macro_rules | `(tactic| walk_at "t") => `(tactic| first | ((with_reducible refine split_t ?_ ?_); (· walk_at "sd")) | ((with_reducible refine split_t' ?_ ?_); (· walk_at "sd")))
local macro_rules | `(tactic| walk_at "f") => `(tactic| first | ((with_reducible refine split_f ?_ ?_); (· walk_at "sd")) | ((with_reducible refine split_f' ?_ ?_); (· walk_at "sd")))
/-- all that is seen in a look -/
local macro_rules | `(tactic| walk_at "v") => `(tactic| (rw [sealAll_mk (by (simp only [List.set_cons_zero, List.set_cons_succ, List.map_cons, List.map_nil, sealS_none, sealS_dat, sealS_scr, sealS_own, List.getElem?_cons_zero, List.getElem?_cons_succ, sealC_lst]; rfl)) (by (simp only [List.set_cons_zero, List.set_cons_succ, List.map_cons, List.map_nil]; rfl))]))

section
/-! ### texts of data -/
theorem dEq_str (x y : Str) : dEq (.str x) (.str y) = some (.bool (decide (x = y))) := by
  unfold dEq
  split
  · congr 2
  · rfl
theorem dNe_str (x y : Str) : dNe (.str x) (.str y) = some (.bool (!decide (x = y))) := by
  unfold dNe
  split
  · congr 3
  · rfl
theorem dEq_str_self (x : Str) : dEq (.str x) (.str x) = some (.bool true) := by rw [dEq_str]; simp
theorem dNe_str_self (x : Str) : dNe (.str x) (.str x) = some (.bool false) := by rw [dNe_str]; simp
/-- what can be shown: its depth, its weight -/
structure Shw (n m : Nat) (d : D) : Prop where
  lay : d.canLay0 = true
  dep : d.depth ≤ n
  wt : d.weight ≤ m
  short : d.intsShort 13 = true
  sh : d.showable = true
theorem Shw.mono {n m n' m' : Nat} {d : D} (h : Shw n m d) (l : n ≤ n') (k : m ≤ m') : Shw n' m' d := ⟨h.lay, Nat.le_trans h.dep l, Nat.le_trans h.wt k, h.short, h.sh⟩
theorem shw_int {i : Int} (h : i.natAbs < 10 ^ 12) : Shw 0 40 (.int i) := by
  have hb : i.natAbs.log2 ≤ 39 := by
    by_cases z : i.natAbs = 0
    · rw [z]; decide
    · refine Nat.le_of_lt_succ ((Nat.log2_lt z).mpr ?_)
      exact Nat.lt_trans h (by decide)
  refine ⟨by simp [PyData.canLay0], by simp [PyData.depth], ?_, ?_, ?_⟩
  · simp only [PyData.weight]
    split <;> omega
  · simp only [PyData.intsShort, decide_eq_true_eq]
    exact PyData.shown_int_le h
  · simp only [PyData.showable, decide_eq_true_eq]; omega
theorem shw_ch {c : Nat} (h : c < 0x110000) : Shw 0 40 (ch c) := ⟨(fine_ch h).1, (fine_ch h).2, by simp [ch, PyData.weight], rfl, rfl⟩
theorem shw_all {n m : Nat} : ∀ {ds : List D}, (∀ d ∈ ds, Shw n m d) → PyData.canLayAll0 ds = true ∧ PyData.depthAll ds ≤ n ∧ PyData.weightAll ds ≤ ds.length * (m + 1) ∧ PyData.intsShortAll 13 ds = true ∧ PyData.showableAll ds = true
  | [], _ => ⟨rfl, Nat.zero_le _, Nat.zero_le _, rfl, rfl⟩
  | d :: ds, h => by
    obtain ⟨a, b, c, e, f⟩ := shw_all fun x hx => h x (List.mem_cons_of_mem _ hx)
    have k := h d List.mem_cons_self
    refine ⟨by simp [PyData.canLayAll0, a, k.lay], by simp only [PyData.depthAll]; exact Nat.max_le.mpr ⟨k.dep, b⟩, ?_, by simp [PyData.intsShortAll, e, k.short], by simp [PyData.showableAll, f, k.sh]⟩
    simp only [PyData.weightAll, List.length_cons]
    rw [Nat.add_mul]
    have := k.wt
    omega
theorem shw_list {n m : Nat} {ds : List D} (h : ∀ d ∈ ds, Shw n m d) : Shw (n + 1) (ds.length * (m + 1)) (.list ds) := by
  obtain ⟨a, b, c, e, f⟩ := shw_all h
  exact ⟨by simpa [PyData.canLay0] using a, by simp only [PyData.depth]; omega, by simpa only [PyData.weight] using c, by simpa only [PyData.intsShort] using e, by simpa only [PyData.showable] using f⟩
theorem shw_tup {n m : Nat} {ds : List D} (h : ∀ d ∈ ds, Shw n m d) : Shw (n + 1) (ds.length * (m + 1)) (.tuple ds) := by
  obtain ⟨a, b, c, e, f⟩ := shw_all h
  exact ⟨by simpa [PyData.canLay0] using a, by simp only [PyData.depth]; omega, by simpa only [PyData.weight] using c, by simpa only [PyData.intsShort] using e, by simpa only [PyData.showable] using f⟩
theorem shw_sq {n m : Nat} {d : D} {ds : List D} (s : Sq d ds) (h : ∀ d ∈ ds, Shw n m d) : Shw (n + 1) (ds.length * (m + 1)) d := by
  rcases s with rfl | rfl
  · exact shw_list h
  · exact shw_tup h
theorem Shw.ok {n m : Nat} {d : D} (h : Shw n m d) (hn : n ≤ 60) (hm : m ≤ 1048576) : showOk d = true := by
  unfold showOk
  have l : d.shown.length ≤ sizeLine := PyData.shown_fits (B := 13) (by decide) (by decide) (PyData.leavesShort_of_canLay0 13 d h.lay h.short) (by have := h.wt; omega)
  rw [sizeLine_eq] at l
  simp only [Bool.and_eq_true, decide_eq_true_eq, Bool.not_eq_true']
  exact ⟨⟨⟨⟨h.sh, PyData.hasDict_of_canLay d h.lay⟩, h.lay⟩, Nat.le_trans h.dep hn⟩, l⟩
theorem ed_repr {n m : Nat} {d : D} {ds : List D} {Q : D → Prop} (s : Sq d ds) (h : Shw n m d) (q : Q (.str d.shown)) (hn : n ≤ 60 := by decide) (hm : m ≤ 1048576 := by omega) : Ed (dRepr [d]) Q := by
  have ok := h.ok hn hm
  rcases s with rfl | rfl
  · exact ⟨_, by simp only [dRepr, ok, if_true], q⟩
  · exact ⟨_, by simp only [dRepr, ok, if_true], q⟩
theorem Shw.fine {n m : Nat} {d : D} (h : Shw n m d) : Fine n d := ⟨h.lay, h.dep⟩
/-! ### all tuples turned to lists -/
mutual
def listsD : D → D
  | .list xs => .list (listsDs xs)
  | .tuple xs => .list (listsDs xs)
  | d => d
def listsDs : List D → List D
  | [] => []
  | x :: xs => listsD x :: listsDs xs
end
theorem listsDs_map : ∀ xs : List D, listsDs xs = xs.map listsD
  | [] => rfl
  | x :: xs => by rw [listsDs, listsDs_map xs]; rfl
theorem lists_sq {d : D} {xs : List D} (s : Sq d xs) : listsD d = .list (xs.map listsD) := by
  rcases s with rfl | rfl <;> rw [listsD, listsDs_map]
theorem depth_mem : ∀ {xs : List D} {x : D}, x ∈ xs → x.depth ≤ PyData.depthAll xs
  | y :: ys, x, h => by
    simp only [PyData.depthAll]
    rcases List.mem_cons.mp h with rfl | h
    · exact Nat.le_max_left _ _
    · exact Nat.le_trans (depth_mem h) (Nat.le_max_right _ _)
theorem depth_sq {d : D} {xs : List D} (s : Sq d xs) : d.depth = PyData.depthAll xs + 1 := by rcases s with rfl | rfl <;> simp only [PyData.depth]
theorem x_lists : ∀ (n : Nat) (d : D), d.depth < n → m__law_lists n [d] = some (listsD d)
  | 0, _, h => absurd h (Nat.not_lt_zero _)
  | n + 1, d, h => by
    show mF 2 (g__law_lists (m__law_lists n)) [d] = _
    refine mF_of ?_; walk_at "i"; unfold g__law_lists
    walk_at "e"
    rw [isi_seq]
    refine ⟨fun h1 => ?_, fun h1 => ?_⟩
    · obtain ⟨xs, hx⟩ := Option.isSome_iff_exists.mp h1
      have s := sq_of hx
      walk_at "e"
      refine ev_mapX (xs := xs) (enc := fun z => z) (g := listsD) ?_
      walk_at "e"
      refine ed_itQ s ⟨by simp, fun z hz => ?_, ?_⟩
      · walk_at "e"
        have hd := depth_mem hz
        have := depth_sq s
        refine Ed.of (x_lists n z (by omega)) ⟨rfl, rfl⟩
      · walk_at "e"
        rw [gives_rtI, lists_sq s]
    · have h1 : seqOf d = none := by simpa using h1
      walk_at "e"
      cases d <;> first | rfl | simp [seqOf] at h1
theorem isEn_lists {d : D} {e : Int × Int} (s : IsEn d e) : IsEn (listsD d) e := by
  unfold IsEn; rw [lists_sq s]; exact sq_l _
theorem isLn_lists {d : D} {l : Ln} (s : IsLn d l) : IsLn (listsD d) l := by
  unfold IsLn; rw [lists_sq s]; exact sq_l _
theorem ride_lists {d : D} {es : List (Int × Int)} (h : IsRide d es) : IsRide (listsD d) es := by
  obtain ⟨ps, s, rfl, hp⟩ := h
  refine ⟨ps.map fun q => (listsD q.1, q.2), ?_, by rw [List.map_map]; rfl, fun q hq => ?_⟩
  · rw [lists_sq s, List.map_map, List.map_map]; exact sq_l _
  · obtain ⟨r, hr, rfl⟩ := List.mem_map.mp hq
    exact isEn_lists (hp r hr)
theorem lns_lists {d : D} {ls : List Ln} (h : Lns d ls) : Lns (listsD d) ls := by
  obtain ⟨ps, s, rfl, hp⟩ := h
  refine ⟨ps.map fun q => (listsD q.1, q.2), ?_, by rw [List.map_map]; rfl, fun q hq => ?_⟩
  · rw [lists_sq s, List.map_map, List.map_map]; exact sq_l _
  · obtain ⟨r, hr, rfl⟩ := List.mem_map.mp hq
    exact isLn_lists (hp r hr)
theorem web_lists {d : D} {p : Int} {ls : List Ln} (h : Web d p ls) : Web (listsD d) p ls := by
  obtain ⟨L, s, hL⟩ := h
  exact ⟨listsD L, by rw [lists_sq s]; exact sq_l _, lns_lists hL⟩
/-! ### how webs and rides are shown -/
theorem shw_ln {p : Int} {d : D} {l : Ln} (s : IsLn d l) (h : LnOk p l) (hp : p ≤ 1000000) : Shw 1 123 d := by
  refine shw_sq (n := 0) (m := 40) s fun x hx => ?_
  simp only [List.mem_cons, List.not_mem_nil, or_false] at hx
  have := h.a0; have := h.a1; have := h.b0; have := h.b1
  rcases hx with rfl | rfl | rfl
  · exact shw_int (by omega)
  · exact shw_int (by omega)
  · exact shw_ch h.c.ok
theorem shw_lns {p : Int} {d : D} {ls : List Ln} (h : Lns d ls) (k : ∀ l ∈ ls, LnOk p l) (hp : p ≤ 1000000) : Shw 2 (ls.length * 124) d := by
  obtain ⟨ps, s, rfl, hq⟩ := h
  have := shw_sq s (n := 1) (m := 123) fun x hx => by
    obtain ⟨q, hm, rfl⟩ := List.mem_map.mp hx
    exact shw_ln (hq q hm) (k _ (List.mem_map_of_mem hm)) hp
  simpa using this
theorem shw_web {d : D} {p : Int} {ls : List Ln} (h : Web d p ls) (k : WbOk p ls) (hp : p ≤ 1000000) : Shw 3 (2 * (ls.length * 124 + 41)) d := by
  obtain ⟨L, s, hL⟩ := h
  have := shw_sq s (n := 2) (m := ls.length * 124 + 40) fun x hx => by
    simp only [List.mem_cons, List.not_mem_nil, or_false] at hx
    rcases hx with rfl | rfl
    · exact (shw_int (by have := k.p0; omega)).mono (by decide) (by omega)
    · exact (shw_lns hL k.all hp).mono (by decide) (by omega)
  simpa using this
theorem shw_en {d : D} {e : Int × Int} (s : IsEn d e) (h1 : e.1.natAbs < 10 ^ 12) (h2 : e.2.natAbs < 10 ^ 12) : Shw 1 82 d := by
  refine shw_sq (n := 0) (m := 40) s fun x hx => ?_
  simp only [List.mem_cons, List.not_mem_nil, or_false] at hx
  rcases hx with rfl | rfl
  · exact shw_int h1
  · exact shw_int h2
theorem shw_ride {d : D} {es : List (Int × Int)} (h : IsRide d es) (k : ∀ e ∈ es, e.1.natAbs < 10 ^ 12 ∧ e.2.natAbs < 10 ^ 12) : Shw 2 (es.length * 83) d := by
  obtain ⟨ps, s, rfl, hq⟩ := h
  have := shw_sq s (n := 1) (m := 82) fun x hx => by
    obtain ⟨q, hm, rfl⟩ := List.mem_map.mp hx
    have := k _ (List.mem_map_of_mem (f := (·.2)) hm)
    exact shw_en (hq q hm) this.1 this.2
  simpa using this
theorem shw_two {a b : D} {n m : Nat} (ha : Shw n m a) (hb : Shw n m b) : Shw (n + 1) (2 * (m + 1)) (.list [a, b]) := shw_list (ds := [a, b]) (n := n) (m := m) fun d hd => by
  simp only [List.mem_cons, List.not_mem_nil, or_false] at hd
  rcases hd with rfl | rfl
  · exact ha
  · exact hb
end

end Lw

set_option maxHeartbeats 4000000
namespace Lw
open PySem Fu
local macro_rules | `(tactic| walk_at "e1") => `(tactic| first
  | with_reducible refine eo_seq ?_ | (with_reducible refine then_nx' ?_; refine ⟨?_, ?_, ?_⟩; rotate_left; · (try dsimp only [List.set, List.length_cons, List.length_nil, List.cons_append, List.nil_append, Nat.zero_add, Nat.reduceAdd]); exact rfl) | with_reducible refine then_rt ?_ | with_reducible refine eo_if ?_ | with_reducible refine eo_ret ?_ | with_reducible refine eo_set ?_ | with_reducible refine eo_asg ?_ | with_reducible refine eo_drop ?_ | with_reducible refine eo_nx ?_ | with_reducible refine eo_par ?_ | with_reducible refine eo_own ?_ | with_reducible refine eo_retN ?_ | with_reducible refine eo_for ?_ | with_reducible refine eo_retO ?_
  | with_reducible refine ev_c ?_ | (with_reducible refine ev_var ?_; refine ⟨_, rfl, ?_⟩) | with_reducible refine ev_bin ?_ | with_reducible refine ev_un ?_ | with_reducible refine ev_nil ?_ | with_reducible refine ev_cons ?_
  | with_reducible refine ev_tup ?_ | with_reducible refine ev_lst ?_ | with_reducible refine ev_call ?_ | with_reducible refine ev_callF ?_ | with_reducible refine ev_isi ?_ | with_reducible refine ev_isi2 ?_ | with_reducible refine ev_andV ?_ | with_reducible refine ev_orV ?_ | with_reducible refine ev_notV ?_
  | with_reducible refine ev_B ?_ | with_reducible refine ev_and ?_ | with_reducible refine ev_or ?_ | with_reducible refine ev_not ?_ | with_reducible refine ev_yes ?_ | with_reducible refine ev_if ?_ | with_reducible refine ev_no ?_ | with_reducible refine ev_so ?_ | with_reducible refine ev_sl ?_ | with_reducible refine ev_items ?_
  | (with_reducible refine ev_ixO ?_; refine ⟨_, _, rfl, rfl, ?_⟩) | (with_reducible refine ev_varO ?_; refine ⟨_, _, rfl, rfl, ?_⟩) | (with_reducible refine ev_lenO ?_; refine ⟨_, _, rfl, rfl, ?_⟩) | (with_reducible refine ev_scrSl ?_; refine ⟨_, rfl, ?_⟩) | (with_reducible refine ev_scrLen ?_; refine ⟨_, rfl, ?_⟩) | (with_reducible refine ev_callScr ?_; refine ⟨_, rfl, ?_⟩) | (with_reducible refine ev_OL ?_; refine ⟨_, _, rfl, rfl, ?_⟩) | with_reducible refine ev_OR ?_ | with_reducible refine ev_rep ?_ | with_reducible refine ev_listRng1 ?_ | with_reducible refine eo_setO ?_
  | with_reducible refine es_name ?_ | with_reducible refine es_tup2 ?_ | with_reducible refine es_tup3 ?_
  | with_reducible refine ed_addI ?_ | with_reducible refine ed_subI ?_ | with_reducible refine ed_cmp ?_ | with_reducible refine ed_eqI ?_ | with_reducible refine ed_neI ?_ | with_reducible refine ed_slT ?_ | with_reducible refine ed_slL ?_ | with_reducible refine ed_lenT ?_ | with_reducible refine ed_lenL ?_ | with_reducible refine ed_lenS ?_ | with_reducible refine ed_inS ?_ | with_reducible refine ed_itT ?_ | with_reducible refine ed_itL ?_ | with_reducible refine ed_tupL ?_ | with_reducible refine ed_tupT ?_ | with_reducible refine ed_listL ?_ | with_reducible refine ed_listT ?_ | with_reducible refine ed_neg ?_ | with_reducible refine ed_max ?_ | with_reducible refine ed_min ?_ | with_reducible refine ed_intB ?_)
local macro_rules | `(tactic| walk_at "e2") => `(tactic| first
  | walk_at "e1" | with_reducible refine ⟨_, rfl, ?_⟩ | with_reducible refine ⟨_, _, rfl, ?_⟩
  | with_reducible refine And.intro (Eq.refl (List.length _)) ?_ | with_reducible refine And.intro (Nat.le_of_ble_eq_true (n := List.length _) rfl) ?_
  | with_reducible refine And.intro (Eq.refl (_ : Sx)) (?_ : Ed _ _)
  | with_reducible exact gives_nx | with_reducible (refine gives_rt ?_; rfl))
local macro_rules | `(tactic| walk_at "e") => `(tactic| repeat walk_at "e2")
/-- begin a def's spec -/
local macro_rules | `(tactic| walk_at "i") => `(tactic| simp only [initS, List.map_cons, List.map_nil, List.length_cons, List.length_nil, Nat.reduceAdd, Nat.reduceSub, List.replicate, List.cons_append, List.nil_append])

section
namespace Sp
/-! ### the spring -/
structure Reel (b : Nat) (cs : List D) : Prop where
  ex : ∃ (f s n : Int), cs = [.int f, .int s, .int n] ∧ 0 ≤ f ∧ 0 ≤ s ∧ s < 2305843009213693951 ∧ 0 ≤ n ∧ n + b ≤ 18446744073709551616
theorem Reel.mono {a b : Nat} {cs : List D} (h : Reel a cs) (l : b ≤ a) : Reel b cs := by
  obtain ⟨f, s, n, h1, h2, h3, h4, h5, h6⟩ := h
  exact ⟨f, s, n, h1, h2, h3, h4, h5, by omega⟩
theorem log_lt {i : Int} {k : Nat} (h : i.natAbs < 2 ^ (k + 1)) : i.natAbs.log2 ≤ k := by
  by_cases z : i.natAbs = 0
  · rw [z]; simp
  · exact Nat.le_of_lt_succ ((Nat.log2_lt z).mpr h)
theorem mulW {i j : Int} (a : -170141183460469231731687303715884105728 < i ∧ i < 170141183460469231731687303715884105728) (b : -170141183460469231731687303715884105728 < j ∧ j < 170141183460469231731687303715884105728) : L2.CMulW i j := by
  unfold L2.CMulW
  have h1 : i.natAbs.log2 ≤ 126 := log_lt (by show i.natAbs < 170141183460469231731687303715884105728; omega)
  have h2 : j.natAbs.log2 ≤ 126 := log_lt (by show j.natAbs < 170141183460469231731687303715884105728; omega)
  omega
theorem divW {i j : Int} (a : 0 < j ∧ j < 170141183460469231731687303715884105728) : L2.CDivW i j := by
  unfold L2.CDivW
  have h2 : j.natAbs.log2 ≤ 126 := log_lt (by show j.natAbs < 170141183460469231731687303715884105728; omega)
  exact ⟨a.1, by omega⟩
theorem x_draw {b : Nat} {cs : List D} {many : Int} (h : Reel (b + 1) cs) (m0 : 0 < many) (m1 : many ≤ 18446744073709551616) : ∃ d cs', m__law_draw_k15 cs [.int many] = some (d, cs') ∧ ∃ v, d = .int v ∧ 0 ≤ v ∧ v < many ∧ Reel b cs' := by
  obtain ⟨f, s, n, rfl, f0, s0, s1, n0, n1⟩ := h
  unfold m__law_draw_k15; refine mIO_of ?_; walk_at "i"; unfold g__law_draw_k15
  walk_at "e"
  refine ed_at (by decide) rfl ?_
  walk_at "e"
  refine ⟨fun ht => ?_, fun ht => ?_⟩
  · walk_at "e"
    refine ed_at (by decide) rfl ?_
    walk_at "e"
    refine ed_modI m0 ?_
    walk_at "e"
    refine ed_at (by decide) rfl ?_
    walk_at "e"
    refine ed_divI (divW ⟨m0, by omega⟩) ?_
    refine ⟨0, _, rfl, rfl, ?_⟩
    walk_at "e"
    refine ⟨rfl, 0, rfl, by simp, ?_⟩
    walk_at "e"
    exact ⟨_, rfl, _, rfl, Int.emod_nonneg _ (by omega), Int.emod_lt_of_pos _ m0, f / many, s, n, rfl, Int.ediv_nonneg f0 (by omega), s0, s1, n0, by omega⟩
  · walk_at "e"
    refine ed_at (by decide) rfl ?_
    walk_at "e"
    refine ⟨0, _, rfl, rfl, ?_⟩
    walk_at "e"
    refine ⟨rfl, 2, rfl, by simp, ?_⟩
    walk_at "e"
    refine ed_at (by decide) rfl ?_
    walk_at "e"
    refine ed_at (by decide) rfl ?_
    walk_at "e"
    refine ed_mulI (mulW ⟨by omega, by omega⟩ ⟨by omega, by omega⟩) ?_
    walk_at "e"
    refine ed_modI (by decide) ?_
    walk_at "e"
    refine ed_at (by decide) rfl ?_
    walk_at "e"
    refine ed_mulI (mulW ⟨by omega, by omega⟩ ⟨by omega, by omega⟩) ?_
    walk_at "e"
    refine ed_at (by decide) rfl ?_
    walk_at "e"
    refine ed_mulI (mulW ⟨by omega, by omega⟩ ⟨by omega, by omega⟩) ?_
    walk_at "e"
    refine ed_modI (by decide) ?_
    refine ⟨0, _, rfl, rfl, ?_⟩
    walk_at "e"
    refine ⟨rfl, 1, rfl, by simp, ?_⟩
    walk_at "e"
    refine ed_at (by decide) rfl ?_
    walk_at "e"
    refine ed_divI (divW ⟨by decide, by decide⟩) ?_
    walk_at "e"
    refine ed_modI m0 ?_
    exact ⟨_, rfl, _, rfl, Int.emod_nonneg _ (by omega), Int.emod_lt_of_pos _ m0, f, _, n + 1, rfl, f0, Int.emod_nonneg _ (by decide), Int.emod_lt_of_pos _ (by decide), by omega, by omega⟩
theorem ed_abs {Q : D → Prop} {i : Int} (h : Q (.int i.natAbs)) : Ed (dAbs [.int i]) Q := ⟨_, rfl, by
  have : (if i < 0 then -i else i) = (i.natAbs : Int) := by split <;> omega
  rw [this]; exact h⟩
theorem x_spring {ns : List Int} (h : ns.length ≤ 63) : ∃ cs, m__law_spring ns = some cs ∧ Reel 4294967296 cs := by
  unfold m__law_spring; refine mScrN_of ?_; walk_at "i"; unfold g__law_spring
  walk_at "e"
  rw [cut_to (by decide), List.take_of_length_le (by simpa using h)]
  have hlen : (ns.map PyData.int).length ≤ 63 := by simpa using h
  refine eo_loop (fun i S => ∃ f st x, S = ⟨[some (.scr ns), some (.dat (.int f)), some (.dat (.int st)), x], []⟩ ∧ 0 ≤ f ∧ f < 2 ^ (200 * i) ∧ 0 ≤ st ∧ st < 2305843009213693951) ⟨_, _, _, rfl, by decide, by decide, by decide, by decide⟩ ?_ ?_
  · rintro i d S hd ⟨f, st, x, rfl, f0, f1, h0, h1⟩
    have hi : i < 63 := by
      have := (List.getElem?_eq_some_iff.mp hd).1
      omega
    obtain ⟨c, hc, rfl⟩ := List.mem_map.mp (List.mem_of_getElem? hd)
    have hp : (2 : Int) ^ (200 * (i + 1)) = 2 ^ (200 * i) * 2 ^ 200 := by rw [← Int.pow_add]; congr 1
    have hpos : (0 : Int) < 2 ^ (200 * i) := Int.pow_pos (by decide)
    have hbig : (10 : Int) ^ 60 < 2 ^ 200 := by decide
    have mono : f < 2 ^ (200 * (i + 1)) := by
      rw [hp]
      have : (2 : Int) ^ (200 * i) * 1 ≤ 2 ^ (200 * i) * 2 ^ 200 := Int.mul_le_mul_of_nonneg_left (by decide) (by omega)
      omega
    walk_at "e"
    refine ed_abs ?_
    walk_at "e"
    refine ed_powI (by decide) ?_
    walk_at "e"
    refine ⟨fun ht => ?_, fun ht => ?_⟩
    · walk_at "e"
      refine ed_powI (by decide) ?_
      refine ed_mulI ?_ ?_
      · unfold L2.CMulW
        have e1 : f.natAbs.log2 ≤ 200 * i := log_lt (by
          have : (f.natAbs : Int) < ((2 ^ (200 * i + 1) : Nat) : Int) := by
            push_cast
            rw [Int.pow_succ]
            omega
          exact Int.ofNat_lt.mp this)
        have e2 : ((10 : Int) ^ (60 : Int).toNat).natAbs.log2 ≤ 200 := by decide
        omega
      walk_at "e"
      refine ed_abs ?_
      walk_at "e"
      refine ed_powI (by decide) ?_
      refine ed_modI (by decide) ?_
      walk_at "e"
      refine ed_mulI (mulW ⟨by omega, by omega⟩ ⟨by decide, by decide⟩) ?_
      walk_at "e"
      refine ed_modI (by decide) ?_
      walk_at "e"
      refine ed_modI (by decide) ?_
      refine ⟨_, rfl, _, _, _, rfl, ?_, ?_, Int.emod_nonneg _ (by decide), Int.emod_lt_of_pos _ (by decide)⟩
      · have := Int.emod_nonneg (c.natAbs : Int) (show (10 : Int) ^ (60 : Int).toNat ≠ 0 by decide)
        have := Int.mul_nonneg f0 (show (0 : Int) ≤ 10 ^ (60 : Int).toNat by decide)
        omega
      · have a1 := Int.emod_lt_of_pos (c.natAbs : Int) (show (0 : Int) < 10 ^ (60 : Int).toNat by decide)
        have a2 : (f + 1) * (10 : Int) ^ (60 : Int).toNat ≤ 2 ^ (200 * i) * 10 ^ (60 : Int).toNat := Int.mul_le_mul_of_nonneg_right (by omega) (by decide)
        have a3 : (2 : Int) ^ (200 * i) * 10 ^ (60 : Int).toNat ≤ 2 ^ (200 * i) * 2 ^ 200 := Int.mul_le_mul_of_nonneg_left (by decide) (by omega)
        rw [hp]
        rw [Int.add_mul, Int.one_mul] at a2
        omega
    · walk_at "e"
      refine ed_mulI (mulW ⟨by omega, by omega⟩ ⟨by decide, by decide⟩) ?_
      walk_at "e"
      refine ed_modI (by decide) ?_
      walk_at "e"
      refine ed_modI (by decide) ?_
      exact ⟨_, rfl, _, _, _, rfl, f0, mono, Int.emod_nonneg _ (by decide), Int.emod_lt_of_pos _ (by decide)⟩
  · rintro S ⟨f, st, x, rfl, f0, f1, h0, h1⟩
    walk_at "e"
    exact ⟨_, _, _, rfl, rfl, f, st, 0, rfl, f0, h0, h1, by decide, by decide⟩
theorem ev_draw {sl : List (Option R)} {os : List (Option Cell)} {i : Nat} {g : M (List D)} {Q : D → Sx → Prop} {b : Nat}
    (h : ∃ j, sl[i]? = some (some (.own j)) ∧ Ev (g ⟨sl, os⟩) fun ds S1 => ∃ cs many, S1.os[j]? = some (some (.lst cs)) ∧ ds = [.int many] ∧ 0 < many ∧ many ≤ 18446744073709551616 ∧ Reel (b + 1) cs ∧ ∀ v cs', 0 ≤ v → v < many → Reel b cs' → Q (.int v) ⟨S1.sl, S1.os.set j (some (.lst cs'))⟩) : Ev (gIO i 1 m__law_draw_k15 g ⟨sl, os⟩) Q := by
  obtain ⟨j, hi, h⟩ := h
  refine ev_IO ⟨j, hi, h.mono ?_⟩
  rintro ds S1 ⟨cs, many, hc, rfl, m0, m1, hR, h⟩
  obtain ⟨d, cs', e, v, rfl, v0, v1, hR'⟩ := x_draw hR m0 m1
  exact ⟨cs, hc, rfl, _, cs', e, h v cs' v0 v1 hR'⟩
end Sp
end

section
namespace Sp
/-! ### the circle that the law plants -/
def lnO : Option Ln → D
  | none => .none
  | some l => ln l
/-- four signs less two -/
theorem signs_left (a b : Nat) : (([97, 98, 99, 100] : List Nat).filter fun c => decide (c ≠ a) && decide (c ≠ b)) ≠ [] := by
  intro h
  rw [List.filter_eq_nil_iff] at h
  have h1 := h 97 (by simp)
  have h2 := h 98 (by simp)
  have h3 := h 99 (by simp)
  simp at h1 h2 h3
  omega
def lastN (sg : List Nat) : Nat := sg.getLast?.getD 0
def headN (sg : List Nat) : Nat := sg.head?.getD 0
structure Signs (sg : List Nat) : Prop where
  all : ∀ c ∈ sg, 97 ≤ c ∧ c ≤ 100
  adj : ∀ i a b, sg[i]? = some a → sg[i + 1]? = some b → a ≠ b
theorem Signs.add {sg : List Nat} {c : Nat} (h : Signs sg) (c0 : 97 ≤ c ∧ c ≤ 100) (h2 : sg ≠ [] → c ≠ lastN sg) : Signs (sg ++ [c]) := by
  refine ⟨fun x hx => ?_, fun i a b ha hb => ?_⟩
  · rcases List.mem_append.mp hx with hx | hx
    · exact h.all x hx
    · rw [List.mem_singleton.mp hx]; exact c0
  · by_cases hi : i + 1 < sg.length
    · rw [List.getElem?_append_left (by omega)] at ha
      rw [List.getElem?_append_left hi] at hb
      exact h.adj i a b ha hb
    · have hl : i + 1 < (sg ++ [c]).length := (List.getElem?_eq_some_iff.mp hb).1
      rw [List.length_append, List.length_singleton] at hl
      have hn : i + 1 = sg.length := by omega
      rw [List.getElem?_append_right (by omega), hn, Nat.sub_self] at hb
      have hb : c = b := by simpa using hb
      rw [List.getElem?_append_left (by omega)] at ha
      have hs : sg ≠ [] := fun z => by subst z; simp at hn
      have : a = lastN sg := by
        unfold lastN
        rw [List.getLast?_eq_getElem?, show sg.length - 1 = i by omega, ha]; rfl
      subst hb
      exact fun e => h2 hs (by rw [← e, this])
theorem ch_ne {a b : Nat} (ha : a < 0x110000) (hb : b < 0x110000) {Q : D → Prop} (h : Q (.bool (!decide (a = b)))) : Ed (dNe (ch a) (ch b)) Q := Ed.of (dNe_ch ha hb) h
theorem abcd : chars "abcd" = ([97, 98, 99, 100] : List Nat).map ch := rfl
def sgF (f : Nat → Bool) : D → Bool
  | .str x => match x.cps.toList with
    | [c] => f c
    | _ => false
  | _ => false
theorem sgF_ch (f : Nat → Bool) (c : Nat) : sgF f (ch c) = f c := rfl
theorem filter_sgF (f : Nat → Bool) (l : List Nat) : (l.map ch).filter (sgF f) = (l.filter f).map ch := by
  rw [List.filter_map]; rfl
theorem getLast_ch {sg : List Nat} (h : sg ≠ []) : (sg.map ch).getLast? = some (ch (lastN sg)) := by
  unfold lastN
  rw [List.getLast?_map, List.getLast?_eq_some_getLast h]; rfl
theorem head_ch {sg : List Nat} (h : sg ≠ []) : (sg.map ch)[0]? = some (ch (headN sg)) := by
  cases sg with
  | nil => exact absurd rfl h
  | cons a sg => rfl
theorem lastN_mem {sg : List Nat} (h : sg ≠ []) : lastN sg ∈ sg := by
  unfold lastN
  rw [List.getLast?_eq_some_getLast h]
  exact List.getLast_mem h
theorem headN_mem {sg : List Nat} (h : sg ≠ []) : headN sg ∈ sg := by
  cases sg with
  | nil => exact absurd rfl h
  | cons a sg => exact List.mem_cons_self
/-- the line at one step of the circle -/
def stepLn (n : Nat) (sp : List Int) (sg : List Nat) (i : Nat) (s : Int) : Ln :=
  if s = 0 then (sp.getD i 0, sp.getD ((i + 1) % n) 0, sg.getD i 0) else (sp.getD ((i + 1) % n) 0, sp.getD i 0, sg.getD i 0)
structure Half (p : Int) (first n k : Nat) (sp : List Int) (sg : List Nat) (L : List Nat) (qs : List (Option Ln)) (es : List (Int × Int)) : Prop where
  len : L.length + k = n
  nd : L.Nodup
  lt : ∀ m ∈ L, m < n
  qlen : qs.length = n
  free : ∀ m ∈ L, qs[m]? = some none
  full : ∀ m, m < n → m ∉ L → ∃ l, qs[m]? = some (some l) ∧ LnOk p l
  elen : es.length = k
  at' : ∀ i, i < k → ∃ (m : Nat) (s : Int), es[i]? = some (((first + m : Nat) : Int), s) ∧ m < n ∧ m ∉ L ∧ (s = 0 ∨ s = 1) ∧ qs[m]? = some (some (stepLn n sp sg i s))
  end' : (es.map Prod.fst).Nodup
  sub : ∀ e ∈ es, ∃ m : Nat, e.1 = ((first + m : Nat) : Int) ∧ m < n ∧ m ∉ L
theorem Half.step {p : Int} {first n k : Nat} {sp : List Int} {sg L : List Nat} {qs : List (Option Ln)} {es : List (Int × Int)} {v m : Nat} {s : Int} (h : Half p first n k sp sg L qs es) (hv : L[v]? = some m) (hs : s = 0 ∨ s = 1) (hl : LnOk p (stepLn n sp sg k s)) :
    Half p first n (k + 1) sp sg (L.eraseIdx v) (qs.set m (some (stepLn n sp sg k s))) (es ++ [(((first + m : Nat) : Int), s)]) := by
  obtain ⟨hvl, hve⟩ := List.getElem?_eq_some_iff.mp hv
  have hm : m ∈ L := List.mem_of_getElem? hv
  have hmn := h.lt m hm
  have hne : m ∉ L.eraseIdx v := by
    intro z
    rw [List.mem_eraseIdx_iff_getElem?] at z
    obtain ⟨i, hi, he⟩ := z
    obtain ⟨hil, hie⟩ := List.getElem?_eq_some_iff.mp he
    exact hi ((List.getElem_inj h.nd).mp (hie.trans hve.symm))
  have hsub : ∀ x ∈ L.eraseIdx v, x ∈ L := fun x hx => List.mem_of_mem_eraseIdx hx
  have hback : ∀ x ∈ L, x ≠ m → x ∈ L.eraseIdx v := fun x hx hxm => by
    rw [List.mem_eraseIdx_iff_getElem?]
    obtain ⟨i, hi⟩ := List.mem_iff_getElem?.mp hx
    refine ⟨i, fun e => ?_, hi⟩
    subst e
    rw [hv] at hi
    cases hi; exact hxm rfl
  refine ⟨?_, h.nd.sublist (List.eraseIdx_sublist L v), fun x hx => h.lt x (hsub x hx), by rw [List.length_set]; exact h.qlen, fun x hx => ?_, fun x hx hxl => ?_, ?_, fun i hi => ?_, ?_, fun e he => ?_⟩
  · rw [List.length_eraseIdx, if_pos hvl]
    have := h.len
    omega
  · rw [List.getElem?_set_ne (fun e : m = x => hne (by rw [e]; exact hx))]
    exact h.free x (hsub x hx)
  · by_cases e : x = m
    · subst e
      exact ⟨_, List.getElem?_set_self (by rw [h.qlen]; exact hx), hl⟩
    · rw [List.getElem?_set_ne (fun z => e z.symm)]
      exact h.full x hx fun z => hxl (hback x z e)
  · rw [List.length_append, h.elen]; rfl
  · by_cases hik : i < k
    · obtain ⟨x, t, h1, h2, h3, h4, h5⟩ := h.at' i hik
      refine ⟨x, t, by rw [List.getElem?_append_left (by rw [h.elen]; exact hik)]; exact h1, h2, fun z => h3 (hsub x z), h4, ?_⟩
      rw [List.getElem?_set_ne (fun z : m = x => h3 (by rw [← z]; exact hm))]
      exact h5
    · have : i = k := by omega
      subst this
      refine ⟨m, s, ?_, hmn, hne, hs, List.getElem?_set_self (by rw [h.qlen]; exact hmn)⟩
      rw [List.getElem?_append_right (by rw [h.elen]; exact Nat.le_refl _), h.elen, Nat.sub_self]; rfl
  · rw [List.map_append, List.nodup_append]
    refine ⟨h.end', by simp, fun a ha c hc => ?_⟩
    obtain ⟨e, he, rfl⟩ := List.mem_map.mp ha
    have hc : c = ((first + m : Nat) : Int) := by simpa using hc
    obtain ⟨x, h1, h2, h3⟩ := h.sub e he
    intro z
    have : x = m := by omega
    exact h3 (this ▸ hm)
  · rcases List.mem_append.mp he with he | he
    · obtain ⟨x, h1, h2, h3⟩ := h.sub e he
      exact ⟨x, h1, h2, fun z => h3 (hsub x z)⟩
    · rw [List.mem_singleton.mp he]
      exact ⟨m, rfl, hmn, hne⟩
theorem getD_ok {sp : List Int} {p : Int} (h : ∀ x ∈ sp, 0 ≤ x ∧ x < p) {i : Nat} (hi : i < sp.length) : 0 ≤ sp.getD i 0 ∧ sp.getD i 0 < p := by
  rw [List.getD_eq_getElem?_getD, List.getElem?_eq_getElem hi]
  exact h _ (List.getElem_mem hi)
theorem stepLn_ok {p : Int} {n : Nat} {sp : List Int} {sg : List Nat} {i : Nat} {s : Int} (h : ∀ x ∈ sp, 0 ≤ x ∧ x < p) (hl : sp.length = n) (hg : Signs sg) (hgl : sg.length = n) (hi : i < n) : LnOk p (stepLn n sp sg i s) := by
  have hj : (i + 1) % n < n := Nat.mod_lt _ (by omega)
  obtain ⟨a, b⟩ := getD_ok h (show i < sp.length by omega)
  obtain ⟨c, d⟩ := getD_ok h (show (i + 1) % n < sp.length by omega)
  have hc : Let (sg.getD i 0) := by
    rw [List.getD_eq_getElem?_getD, List.getElem?_eq_getElem (by omega)]
    have := hg.all _ (List.getElem_mem (show i < sg.length by omega))
    exact ⟨this.1, by simp only [Option.getD_some]; omega⟩
  unfold stepLn
  split
  · exact ⟨a, b, c, d, hc⟩
  · exact ⟨c, d, a, b, hc⟩
structure Circ (p : Int) (first n : Nat) (sp : List Int) (sg : List Nat) (ks : List Ln) (es : List (Int × Int)) : Prop where
  spOk : ∀ x ∈ sp, 0 ≤ x ∧ x < p
  spl : sp.length = n
  sgOk : Signs sg
  sgl : sg.length = n
  ends : lastN sg ≠ headN sg
  half : Half p first n n sp sg [] (ks.map some) es
theorem all_some {α : Type} : ∀ {qs : List (Option α)}, (∀ q ∈ qs, ∃ l, q = some l) → ∃ ks : List α, qs = ks.map some
  | [], _ => ⟨[], rfl⟩
  | q :: qs, h => by
    obtain ⟨l, rfl⟩ := h q List.mem_cons_self
    obtain ⟨ks, rfl⟩ := all_some fun x hx => h x (List.mem_cons_of_mem _ hx)
    exact ⟨l :: ks, rfl⟩
theorem eq_of_ints {es : List D} {n : Nat} {P : Int → Prop} (hl : es.length = n) (h : ∀ (i : Nat) (e : D), es[i]? = some e → ∃ v : Int, e = PyData.int v ∧ P v) : ∃ vs : List Int, es = vs.map PyData.int ∧ vs.length = n ∧ ∀ v ∈ vs, P v := by
  induction es generalizing n with
  | nil => exact ⟨[], rfl, hl, fun _ h => nomatch h⟩
  | cons e es ih =>
    obtain ⟨v, rfl, hv⟩ := h 0 e rfl
    obtain ⟨vs, rfl, h2, h3⟩ := ih rfl fun i x hx => h (i + 1) x (by simpa using hx)
    exact ⟨v :: vs, rfl, by simpa using hl, fun x hx => by rcases List.mem_cons.mp hx with rfl | hx; exact hv; exact h3 x hx⟩
theorem good_chs {sg : List Nat} (h : ∀ c ∈ sg, c < 0x110000) : Good 1 (.list (sg.map ch)) := good_list fun d hd => by
  obtain ⟨c, hc, rfl⟩ := List.mem_map.mp hd
  exact good_ch (h c hc)
theorem eo_mid {g h : Sx → Option Out} {S : Sx} {Z : Out → Prop} (P : Sx → Prop) (h1 : Eo (g S) fun o => ∃ S1, o = .nx S1 ∧ P S1) (h2 : ∀ S1, P S1 → Eo (h S1) Z) : Eo (qSeq g h S) Z := by
  obtain ⟨_, e, S1, rfl, p⟩ := h1
  exact eo_seq ⟨_, e, h2 S1 p⟩
theorem map_erase {α β : Type} (f : α → β) : ∀ (l : List α) (i : Nat), (l.map f).eraseIdx i = (l.eraseIdx i).map f
  | [], i => rfl
  | a :: l, 0 => rfl
  | a :: l, i + 1 => by
    show f a :: (l.map f).eraseIdx i = f a :: (l.eraseIdx i).map f
    rw [map_erase f l i]
theorem x_circle {b n first : Nat} {p : Int} {cs : List D} (n0 : 2 ≤ n) (n1 : n ≤ 1000) (p0 : 0 < p) (p1 : p ≤ 1000) (hR : Reel (b + 4 * n) cs) :
    ∃ d cs', m__law_circle cs [.int (n : Int), .int p, .int (first : Int)] = some (d, cs') ∧ ∃ (sp : List Int) (sg : List Nat) (ks : List Ln) (es : List (Int × Int)), d = .tuple [.list (ks.map ln), .list (es.map en)] ∧ Circ p first n sp sg ks es ∧ Reel b cs' := by
  unfold m__law_circle; refine mIO_of ?_; walk_at "i"; unfold g__law_circle
  walk_at "e"
  refine ev_lcIO (fun i os => ∃ cs, os = [some (.lst cs)] ∧ Reel (b + 4 * n - i) cs) (fun _ e => ∃ v, e = .int v ∧ 0 ≤ v ∧ v < p) ?_
  refine ev_rng1 ?_
  walk_at "e"
  refine ⟨by omega, by omega, ⟨_, rfl, hR⟩, ?_, ?_⟩
  · rintro i d os hd ⟨cs, rfl, hR⟩
    obtain ⟨hi, rfl⟩ := rng_at hd
    walk_at "e"
    refine ev_draw (b := b + 4 * n - (i + 1)) ⟨_, rfl, ?_⟩
    walk_at "e"
    refine ⟨_, _, rfl, rfl, p0, by omega, hR.mono (by omega), fun v cs v0 v1 hR => ⟨rfl, ⟨v, rfl, v0, v1⟩, cs, rfl, hR⟩⟩
  rintro xs os hxl hx ⟨cs, rfl, hR⟩
  rw [rng_len, Int.toNat_natCast] at hxl hR
  obtain ⟨sp, rfl, hsl, hsp⟩ := eq_of_ints hxl hx
  walk_at "e"
  refine ev_rng1 ?_
  walk_at "e"
  refine ⟨by omega, by omega, ?_⟩
  refine eo_loop (fun i S => ∃ x6 x7 x14 cs, ∃ sg : List Nat, S = ⟨[some (.own 0), some (.dat (.int (n : Int))), some (.dat (.int p)), some (.dat (.int (first : Int))), some (.dat (.list (sp.map .int))), some (.own 1), x6, x7, none, none, none, none, none, none, x14], [some (.lst cs), some (.lst (sg.map ch))]⟩ ∧
    Signs sg ∧ sg.length = i ∧ (i = n → lastN sg ≠ headN sg) ∧ Reel (b + 3 * n - i) cs) ⟨_, _, _, _, [], rfl, ⟨fun _ h => (nomatch h), fun i a b h => by simp at h⟩, rfl, fun h => by omega, hR.mono (by omega)⟩ ?_ ?_
  · rintro i d S hd ⟨x6, x7, x14, cs, sg, rfl, hs, hsl2, hlast, hR⟩
    obtain ⟨hi, rfl⟩ := rng_at hd
    rw [Int.toNat_natCast] at hi
    have hok : ∀ c ∈ sg, c < 0x110000 := fun c hc => by have := (hs.all c hc).2; omega
    have hok4 : ∀ c ∈ ([97, 98, 99, 100] : List Nat), c < 0x110000 := by decide
    walk_at "e"
    refine ev_lc (sgF fun c => decide (sg = []) || decide (c ≠ lastN sg)) id ?_
    walk_at "e"
    refine ⟨_, rfl, ?_⟩
    rw [abcd]
    refine ⟨fun d hd => ?_, ?_⟩
    · obtain ⟨c, hc, rfl⟩ := List.mem_map.mp hd
      rw [sgF_ch]
      walk_at "e"
      refine ⟨rfl, rfl, ?_⟩
      walk_at "e"
      refine ed_eq_good (good_chs hok) (good_list_le (n := 1) (m := 0) (ds := []) (fun _ h => nomatch h) (by decide)) (fun e => ?_) (fun e => ?_)
      · have e : sg = [] := by simpa using e
        walk_at "e"
        refine split_t' rfl ⟨rfl, by simp [e], fun _ => ?_⟩
        walk_at "e"
        exact ⟨rfl, rfl⟩
      · have e : sg ≠ [] := fun z => e (by rw [z]; rfl)
        walk_at "e"
        refine split_f' rfl ?_
        walk_at "e"
        refine ed_atLast (getLast_ch e) ?_
        refine ch_ne (hok4 c hc) (hok _ (lastN_mem e)) ?_
        walk_at "e"
        refine ⟨rfl, by simp [e], fun _ => ?_⟩
        walk_at "e"
        exact ⟨rfl, rfl⟩
    · rw [filter_sgF, List.map_id]
      walk_at "e1"
      refine eo_mid (fun S1 => ∃ F : List Nat, S1 = ⟨[some (.own 0), some (.dat (.int (n : Int))), some (.dat (.int p)), some (.dat (.int (first : Int))), some (.dat (.list (sp.map .int))), some (.own 1), some (.dat (.int (0 + (i : Int)))), some (.dat (.list (F.map ch))), none, none, none, none, none, none, x14], [some (.lst cs), some (.lst (sg.map ch))]⟩ ∧
        F ≠ [] ∧ F.length ≤ 4 ∧ ∀ c ∈ F, (97 ≤ c ∧ c ≤ 100) ∧ (sg ≠ [] → c ≠ lastN sg) ∧ (i + 1 = n → c ≠ headN sg)) ?_ ?_
      · have hF : ∀ c ∈ ([97, 98, 99, 100] : List Nat).filter (fun c => decide (sg = []) || decide (c ≠ lastN sg)), (97 ≤ c ∧ c ≤ 100) ∧ (sg ≠ [] → c ≠ lastN sg) := fun c hc => by
          obtain ⟨h1, h2⟩ := List.mem_filter.mp hc
          refine ⟨by simp at h1; omega, fun hn => ?_⟩
          simpa [hn] using h2
        walk_at "e"
        refine ⟨fun ht => ?_, fun ht => ?_⟩
        · have ht : i + 1 = n := by have := of_decide_eq_true ht; omega
          have hn : sg ≠ [] := fun z => by rw [z] at hsl2; simp at hsl2; omega
          walk_at "e"
          refine ev_lc (sgF fun c => decide (c ≠ headN sg)) id ?_
          walk_at "e"
          refine ⟨fun d hd => ?_, ?_⟩
          · obtain ⟨c, hc, rfl⟩ := List.mem_map.mp hd
            have hc4 := (hF c hc).1
            rw [sgF_ch]
            walk_at "e"
            refine ⟨rfl, rfl, ?_⟩
            walk_at "e"
            refine ed_at (by decide) (head_ch hn) ?_
            refine ch_ne (by omega) (hok _ (headN_mem hn)) ?_
            walk_at "e"
            refine ⟨rfl, by simp, fun _ => ?_⟩
            walk_at "e"
            exact ⟨rfl, rfl⟩
          · rw [filter_sgF, List.map_id]
            refine ⟨_, rfl, _, rfl, ?_, Nat.le_trans (List.length_filter_le _ _) (List.length_filter_le _ _), fun c hc => ?_⟩
            · rw [List.filter_filter]
              have := signs_left (headN sg) (lastN sg)
              simpa [hn] using this
            · obtain ⟨h1, h2⟩ := List.mem_filter.mp hc
              exact ⟨(hF c h1).1, (hF c h1).2, fun _ => by simpa using h2⟩
        · have ht : i + 1 ≠ n := by have := of_decide_eq_false ht; omega
          walk_at "e"
          refine ⟨?_, List.length_filter_le _ _, fun c hc => ⟨(hF c hc).1, (hF c hc).2, fun z => absurd z ht⟩⟩
          have := signs_left (lastN sg) (lastN sg)
          intro z
          refine this (List.filter_eq_nil_iff.mpr fun c hc hx => (List.filter_eq_nil_iff.mp z) c hc ?_)
          simp at hx
          simp [hx]
      · rintro S1 ⟨F, rfl, hF0, hF4, hF⟩
        walk_at "e"
        refine ev_app ⟨_, _, rfl, rfl, ?_⟩
        walk_at "e"
        refine ev_draw (b := b + 3 * n - (i + 1)) ⟨_, rfl, ?_⟩
        walk_at "e"
        have hFl : 0 < F.length := List.length_pos_iff.mpr hF0
        refine ⟨_, _, rfl, rfl, by simp; omega, by simp; omega, hR.mono (by omega), fun v cs v0 v1 hR => ?_⟩
        refine ed_pick (P := fun d => ∃ c, c ∈ F ∧ d = ch c) v0 v1 (fun d hd => by obtain ⟨c, hc, rfl⟩ := List.mem_map.mp hd; exact ⟨c, hc, rfl⟩) ?_
        rintro _ ⟨c, hc, rfl⟩
        obtain ⟨g1, g2, g3⟩ := hF c hc
        walk_at "e"
        refine ⟨by simp; omega, ?_⟩
        rw [show sg.map ch ++ [ch c] = (sg ++ [c]).map ch by simp]
        refine ⟨_, rfl, _, _, _, _, sg ++ [c], rfl, hs.add g1 g2, by simp [hsl2], fun e => ?_, hR⟩
        · have hn : sg ≠ [] := fun z => by rw [z] at hsl2; simp at hsl2; omega
          have e1 : lastN (sg ++ [c]) = c := by unfold lastN; simp
          have e2 : headN (sg ++ [c]) = headN sg := by
            cases sg with
            | nil => exact absurd rfl hn
            | cons a sg => rfl
          rw [e1, e2]
          exact g3 e
  · rintro S ⟨x6, x7, x14, cs, sg, rfl, hs, hsl2, hlast, hR⟩
    rw [rng_len, Int.toNat_natCast] at hsl2 hlast hR
    walk_at "e"
    refine ⟨by omega, by omega, ?_⟩
    walk_at "e"
    refine ed_mulL (by omega) (by omega) (by simp; omega) ?_
    rw [rep_one, Int.toNat_natCast]
    walk_at "e"
    refine ev_rng1 ?_
    walk_at "e"
    refine ⟨by omega, by omega, ?_⟩
    rw [Int.toNat_natCast]
    have e1 : rng 0 n = (List.range n).map fun m : Nat => PyData.int (m : Int) := by
      unfold rng
      apply List.map_congr_left
      intro m _
      rw [Int.zero_add]
    rw [e1, show List.replicate n PyData.none = (List.replicate n none).map lnO by rw [List.map_replicate]; rfl]
    refine eo_loop (fun i S => ∃ y6 y11 y12 y13 cs L qs es, S = ⟨[some (.own 0), some (.dat (.int (n : Int))), some (.dat (.int p)), some (.dat (.int (first : Int))), some (.dat (.list (sp.map .int))), some (.own 1), y6, x7, some (.own 2), some (.own 3), some (.own 4), y11, y12, y13, x14],
        [some (.lst cs), some (.lst (sg.map ch)), some (.lst (L.map fun m : Nat => .int (m : Int))), some (.lst (qs.map lnO)), some (.lst (es.map en))]⟩ ∧ Half p first n i sp sg L qs es ∧ Reel (b + 2 * n - 2 * i) cs)
      ⟨_, _, _, _, cs, List.range n, List.replicate n none, [], rfl, ?_, hR.mono (by omega)⟩ ?_ ?_
    · refine ⟨by simp, List.nodup_range, fun m hm => List.mem_range.mp hm, by simp, fun m hm => ?_, fun m h1 h2 => absurd (List.mem_range.mpr h1) h2, rfl, fun i hi => by omega, by simp, fun e he => nomatch he⟩
      rw [List.getElem?_replicate, if_pos (List.mem_range.mp hm)]
    · rintro i z S hz ⟨y6, y11, y12, y13, cs, L, qs, es, rfl, hH, hR⟩
      rw [← e1] at hz
      obtain ⟨hi, rfl⟩ := rng_at hz
      walk_at "e"
      refine ev_popAt ⟨_, _, rfl, rfl, ?_⟩
      refine ev_draw (b := b + 2 * n - 2 * i - 1) ⟨_, rfl, ?_⟩
      walk_at "e"
      have hL := hH.len
      refine ⟨_, _, rfl, rfl, by simp; omega, by simp; omega, hR.mono (by omega), fun v cs v0 v1 hR => ?_⟩
      rw [List.length_map] at v1
      have hv : L[v.toNat]? = some L[v.toNat] := List.getElem?_eq_getElem (by omega)
      have hmn := hH.lt _ (List.mem_of_getElem? hv)
      generalize L[v.toNat] = m at hv hmn
      refine ⟨_, v, rfl, rfl, v0, .int (m : Int), by rw [List.getElem?_map, hv]; rfl, ?_⟩
      walk_at "e"
      refine ev_draw (b := b + 2 * n - 2 * i - 2) ⟨_, rfl, ?_⟩
      walk_at "e"
      refine ⟨_, _, rfl, rfl, by decide, by decide, hR.mono (by omega), fun s cs s0 s1 hR => ?_⟩
      walk_at "e"
      have hspi : sp[i]? = some (sp.getD i 0) := by
        rw [List.getD_eq_getElem?_getD, List.getElem?_eq_getElem (show i < sp.length by omega)]; rfl
      have hmod : (i + 1) % n < n := Nat.mod_lt _ (by omega)
      have hspj : sp[(i + 1) % n]? = some (sp.getD ((i + 1) % n) 0) := by
        rw [List.getD_eq_getElem?_getD, List.getElem?_eq_getElem (show (i + 1) % n < sp.length by omega)]; rfl
      have hsgi : sg[i]? = some (sg.getD i 0) := by
        rw [List.getD_eq_getElem?_getD, List.getElem?_eq_getElem (show i < sg.length by omega)]; rfl
      refine ed_ixL (by omega) (show _ = some (PyData.int (sp.getD i 0)) by rw [List.getElem?_map, show ((0 : Int) + (i : Int)).toNat = i by omega, hspi]; rfl) ?_
      walk_at "e"
      refine ed_modI (by omega) ?_
      have hmi : ((0 : Int) + (i : Int) + 1) % (n : Int) = (((i + 1) % n : Nat) : Int) := by rw [Int.zero_add]; simp
      rw [hmi]
      refine ed_ixL (by omega) (show _ = some (PyData.int (sp.getD ((i + 1) % n) 0)) by rw [List.getElem?_map, Int.toNat_natCast, hspj]; rfl) ?_
      walk_at "e"
      have hs2 : s = 0 ∨ s = 1 := by omega
      have e5 : ∀ Q : D → Prop, Q (.int (stepLn n sp sg i s).1) → Ed (dIx (.list [.int (sp.getD i 0), .int (sp.getD ((i + 1) % n) 0)]) (.int s)) Q := fun Q q => by
        rcases hs2 with rfl | rfl
        · exact ed_ixL (by decide) rfl q
        · exact ed_ixL (by decide) rfl q
      have e6 : ∀ Q : D → Prop, Q (.int (stepLn n sp sg i s).2.1) → Ed (dIx (.list [.int (sp.getD i 0), .int (sp.getD ((i + 1) % n) 0)]) (.int (1 - s))) Q := fun Q q => by
        rcases hs2 with rfl | rfl
        · exact ed_ixL (by decide) rfl q
        · exact ed_ixL (by decide) rfl q
      refine e5 _ ?_
      walk_at "e"
      refine e6 _ ?_
      walk_at "e"
      refine ed_at (d := ch (sg.getD i 0)) (by omega) (by rw [List.getElem?_map, show ((0 : Int) + (i : Int)).toNat = i by omega, hsgi]; rfl) ?_
      walk_at "e"
      refine ⟨_, _, rfl, rfl, ?_⟩
      walk_at "e"
      refine ⟨rfl, m, rfl, by rw [List.length_map, hH.qlen]; exact hmn, ?_⟩
      walk_at "e"
      refine ev_app ⟨_, _, rfl, rfl, ?_⟩
      walk_at "e"
      refine ⟨by rw [List.length_map, hH.elen]; omega, ?_⟩
      have e7 : (stepLn n sp sg i s).2.2 = sg.getD i 0 := by unfold stepLn; split <;> rfl
      refine ⟨_, rfl, ?_⟩
      have e8 : (L.map fun m : Nat => PyData.int (m : Int)).eraseIdx v.toNat = (L.eraseIdx v.toNat).map fun m : Nat => PyData.int (m : Int) := map_erase _ _ _
      have e9 : (qs.map lnO).set m (.tuple [.int (stepLn n sp sg i s).1, .int (stepLn n sp sg i s).2.1, ch (sg.getD i 0)]) = (qs.set m (some (stepLn n sp sg i s))).map lnO := by
        rw [List.map_set, ← e7]; rfl
      have e10 : es.map en ++ [.tuple [.int ((first : Int) + (m : Int)), .int s]] = (es ++ [(((first + m : Nat) : Int), s)]).map en := by
        rw [List.map_append, show ((first + m : Nat) : Int) = (first : Int) + (m : Int) by simp]; rfl
      rw [e8, e9, e10]
      exact ⟨_, _, _, _, cs, L.eraseIdx v.toNat, qs.set m (some (stepLn n sp sg i s)), es ++ [(((first + m : Nat) : Int), s)], rfl, hH.step hv hs2 (stepLn_ok hsp hsl hs hsl2 hi), hR.mono (by omega)⟩
    · rintro S ⟨y6, y11, y12, y13, cs, L, qs, es, rfl, hH, hR⟩
      rw [List.length_map, List.length_range] at hH hR
      walk_at "e"
      have hL : L = [] := List.length_eq_zero_iff.mp (by have := hH.len; omega)
      subst hL
      obtain ⟨ks, rfl⟩ := all_some (qs := qs) fun q hq => by
        obtain ⟨m, hm⟩ := List.mem_iff_getElem?.mp hq
        have hl := (List.getElem?_eq_some_iff.mp hm).1
        obtain ⟨l, h1, _⟩ := hH.full m (by rw [← hH.qlen]; exact hl) (fun z => nomatch z)
        rw [hm] at h1
        cases h1
        exact ⟨l, rfl⟩
      refine ⟨_, rfl, sp, sg, ks, es, ?_, ⟨hsp, hsl, hs, hsl2, hlast rfl, hH⟩, hR.mono (by omega)⟩
      rw [List.map_map]
      rfl
/-! ### a planted round -/
theorem chain_idx (ls : List Ln) : ∀ es : List (Int × Int), (∀ (i : Nat) (e f : Int × Int), es[i]? = some e → es[i + 1]? = some f → goesB ls e f = true) → chain ls es = true
  | [], _ => rfl
  | [_], _ => rfl
  | e :: f :: r, h => by
    rw [chain, Bool.and_eq_true]
    exact ⟨h 0 e f rfl rfl, chain_idx ls (f :: r) fun i x y hx hy => h (i + 1) x y (by simpa using hx) (by simpa using hy)⟩
theorem Circ.at {p : Int} {n : Nat} {sp : List Int} {sg : List Nat} {ks more : List Ln} {es : List (Int × Int)} (h : Circ p 0 n sp sg ks es) {i : Nat} (hi : i < n) :
    ∃ e, es[i]? = some e ∧ EndOk (ks ++ more).length e ∧ plc (ks ++ more) e = sp.getD i 0 ∧ plc (ks ++ more) (far e) = sp.getD ((i + 1) % n) 0 ∧ cmpy (ks ++ more) e = sg.getD i 0 := by
  obtain ⟨m, s, h1, h2, _, hs, h5⟩ := h.half.at' i hi
  have hk : ks.length = n := by have := h.half.qlen; rwa [List.length_map] at this
  rw [Nat.zero_add] at h1
  have h6 : (ks ++ more)[m]? = some (stepLn n sp sg i s) := by
    rw [List.getElem?_append_left (by omega)]
    rw [List.getElem?_map] at h5
    obtain ⟨l, e1, e2⟩ := Option.map_eq_some_iff.mp h5
    cases e2
    exact e1
  refine ⟨_, h1, ⟨by simp, by simp; omega, by simp only; omega, by simp only; omega⟩, ?_, ?_, ?_⟩
  · unfold plc
    simp only [Int.toNat_natCast, h6]
    rcases hs with rfl | rfl <;> simp [sideOf, stepLn]
  · unfold plc far
    simp only [Int.toNat_natCast, h6]
    rcases hs with rfl | rfl <;> simp [sideOf, stepLn]
  · unfold cmpy
    simp only [Int.toNat_natCast, h6]
    rcases hs with rfl | rfl <;> simp [stepLn]
theorem goes_of {ls : List Ln} {e f : Int × Int} (h1 : plc ls (far e) = plc ls f) (h2 : cmpy ls e ≠ cmpy ls f) : goesB ls e f = true := by
  unfold goesB
  simp [h1, h2]
theorem circ_round {p : Int} {n : Nat} {sp : List Int} {sg : List Nat} {ks more : List Ln} {es : List (Int × Int)} (h : Circ p 0 n sp sg ks es) (n0 : 2 ≤ n) : roundB (ks ++ more) es = true := by
  have hel := h.half.elen
  have hn : es ≠ [] := fun z => by rw [z] at hel; simp at hel; omega
  have sgD : ∀ i, i < n → sg[i]? = some (sg.getD i 0) := fun i hi => by
    have := h.sgl
    rw [List.getD_eq_getElem?_getD, List.getElem?_eq_getElem (show i < sg.length by omega)]; rfl
  rw [roundB_iff, rideB_iff]
  refine ⟨⟨hn, fun e he => ?_, h.half.end', chain_idx _ _ fun i e f he hf => ?_⟩, ?_⟩
  · obtain ⟨i, hi⟩ := List.mem_iff_getElem?.mp he
    have hl := (List.getElem?_eq_some_iff.mp hi).1
    obtain ⟨x, h1, h2, _⟩ := h.at (more := more) (show i < n by omega)
    rw [hi] at h1
    cases h1
    exact h2
  · have hl := (List.getElem?_eq_some_iff.mp hf).1
    obtain ⟨x, h1, h2, h3, h4, h5⟩ := h.at (more := more) (show i < n by omega)
    obtain ⟨y, k1, k2, k3, k4, k5⟩ := h.at (more := more) (show i + 1 < n by omega)
    rw [he] at h1; cases h1
    rw [hf] at k1; cases k1
    refine goes_of (by rw [h4, k3, Nat.mod_eq_of_lt (by omega)]) ?_
    rw [h5, k5]
    exact h.sgOk.adj i _ _ (sgD i (by omega)) (sgD (i + 1) (by omega))
  · obtain ⟨x, h1, h2, h3, h4, h5⟩ := h.at (more := more) (show n - 1 < n by omega)
    obtain ⟨y, k1, k2, k3, k4, k5⟩ := h.at (more := more) (show 0 < n by omega)
    have e1 : lastE es = x := by unfold lastE; rw [List.getLast?_eq_getElem?, hel, h1]; rfl
    have e2 : headE es = y := by
      have := (head_mem hn).1
      rw [k1] at this
      cases this; rfl
    rw [e1, e2]
    refine goes_of (by rw [h4, k3, show n - 1 + 1 = n by omega, Nat.mod_self]) ?_
    rw [h5, k5]
    have e3 : lastN sg = sg.getD (n - 1) 0 := by unfold lastN; rw [List.getLast?_eq_getElem?, h.sgl, sgD (n - 1) (by omega)]; rfl
    have e4 : headN sg = sg.getD 0 0 := by
      have hs := h.sgl
      cases sg with
      | nil => simp at hs; omega
      | cons a sg => rfl
    rw [← e3, ← e4]
    exact h.ends
theorem circ_ok {p : Int} {n : Nat} {sp : List Int} {sg : List Nat} {ks : List Ln} {es : List (Int × Int)} (h : Circ p 0 n sp sg ks es) : (∀ l ∈ ks, LnOk p l) ∧ ks.length = n := by
  have hk : ks.length = n := by have := h.half.qlen; rwa [List.length_map] at this
  refine ⟨fun l hl => ?_, hk⟩
  obtain ⟨m, hm⟩ := List.mem_iff_getElem?.mp hl
  have hlt := (List.getElem?_eq_some_iff.mp hm).1
  obtain ⟨x, h1, h2⟩ := h.half.full m (by omega) (fun z => nomatch z)
  rw [List.getElem?_map, hm] at h1
  cases h1
  exact h2
theorem x_planted {b most : Nat} {cs : List D} (m0 : 2 ≤ most) (m1 : most ≤ 900) (hR : Reel (b + 4 * most + 30) cs) :
    ∃ d cs', m__law_planted cs [.int (most : Int)] = some (d, cs') ∧ ∃ (p : Int) (ls : List Ln) (es : List (Int × Int)), d = .tuple [wb p ls, .list (es.map en)] ∧ WbOk p ls ∧ 0 < p ∧ p ≤ 20 ∧ roundB ls es = true ∧ 2 ≤ es.length ∧ es.length ≤ most ∧ ls.length ≤ most + 6 ∧ Reel b cs' := by
  unfold m__law_planted; refine mIO_of ?_; walk_at "i"; unfold g__law_planted
  walk_at "e"
  refine ev_draw (b := b + 4 * most + 28) ⟨_, rfl, ?_⟩
  walk_at "e"
  refine ev_draw (b := b + 4 * most + 29) ⟨_, rfl, ?_⟩
  walk_at "e"
  refine ⟨_, _, rfl, rfl, by decide, by decide, hR, fun v1 cs a1 b1 hR => ?_⟩
  refine ed_pick (P := fun d => ∃ k : Int, d = .int k ∧ 0 < k ∧ k ≤ 20) a1 b1 (fun d hd => ?_) ?_
  · simp only [List.mem_cons, List.not_mem_nil, or_false] at hd
    rcases hd with rfl | rfl | rfl <;> exact ⟨_, rfl, by decide, by decide⟩
  rintro _ ⟨k, rfl, k0, k1⟩
  walk_at "e"
  refine ⟨_, _, rfl, rfl, k0, by omega, hR, fun v2 cs a2 b2 hR => ?_⟩
  walk_at "e"
  refine ev_IO ⟨_, rfl, ?_⟩
  walk_at "e"
  refine ev_draw (b := b + 4 * most + 27) ⟨_, rfl, ?_⟩
  walk_at "e"
  refine ⟨_, _, rfl, rfl, by omega, by omega, hR, fun v3 cs a3 b3 hR => ?_⟩
  walk_at "e"
  obtain ⟨n, hn⟩ : ∃ n : Nat, 2 + v3 = (n : Int) := ⟨(2 + v3).toNat, by omega⟩
  rw [hn]
  have hR : Reel ((b + 22) + 4 * n) cs := hR.mono (by omega)
  obtain ⟨d, cs2, e1, sp, sg, ks, es, rfl, hc, hR⟩ := x_circle (first := 0) (p := 1 + v2) (show 2 ≤ n by omega) (by omega) (by omega) (by omega) hR
  refine ⟨_, _, e1, ?_⟩
  walk_at "e"
  refine ev_lcIO (fun i os => ∃ cs, os = [some (.lst cs)] ∧ Reel (b + 21 - 3 * i) cs) (fun _ e => ∃ l, e = ln l ∧ LnOk (1 + v2) l) ?_
  refine ev_rng1 ?_
  walk_at "e"
  refine ev_draw (b := b + 21) ⟨_, rfl, ?_⟩
  walk_at "e"
  refine ⟨_, _, rfl, rfl, by decide, by decide, hR, fun v4 cs a4 b4 hR => ?_⟩
  walk_at "e"
  refine ⟨by omega, by omega, ⟨_, rfl, hR⟩, ?_, ?_⟩
  · rintro i d os hd ⟨cs, rfl, hR⟩
    obtain ⟨hi, rfl⟩ := rng_at hd
    walk_at "e"
    refine ev_draw (b := b + 20 - 3 * i) ⟨_, rfl, ?_⟩
    walk_at "e"
    refine ⟨_, _, rfl, rfl, by omega, by omega, hR.mono (by omega), fun x1 cs c1 d1 hR => ?_⟩
    walk_at "e"
    refine ev_draw (b := b + 19 - 3 * i) ⟨_, rfl, ?_⟩
    walk_at "e"
    refine ⟨_, _, rfl, rfl, by omega, by omega, hR.mono (by omega), fun x2 cs c2 d2 hR => ?_⟩
    walk_at "e"
    refine ev_draw (b := b + 18 - 3 * i) ⟨_, rfl, ?_⟩
    walk_at "e"
    refine ⟨_, _, rfl, rfl, by decide, by decide, hR.mono (by omega), fun x3 cs c3 d3 hR => ?_⟩
    refine ed_pickS (P := Let) c3 d3 (by intro c hc; have hc : c ∈ [97, 98, 99, 122] := hc; simp at hc; rcases hc with rfl | rfl | rfl | rfl <;> exact ⟨by decide, by decide⟩) fun c kc => ?_
    walk_at "e"
    exact ⟨rfl, ⟨(x1, x2, c), rfl, ⟨c1, d1, c2, d2, kc⟩⟩, cs, rfl, hR.mono (by omega)⟩
  · rintro xs os hxl hx ⟨cs, rfl, hR⟩
    rw [rng_len] at hxl hR
    obtain ⟨more, rfl, hml, hmo⟩ : ∃ more : List Ln, xs = more.map ln ∧ more.length ≤ 6 ∧ ∀ l ∈ more, LnOk (1 + v2) l := by
      have hl : xs.length ≤ 6 := by omega
      clear hxl
      induction xs with
      | nil => exact ⟨[], rfl, by simp, fun _ h => nomatch h⟩
      | cons x xs ih =>
        obtain ⟨l, rfl, h1⟩ := hx 0 x rfl
        obtain ⟨more, rfl, h2, h3⟩ := ih (fun i e he => hx (i + 1) e (by simpa using he)) (by simp at hl; omega)
        exact ⟨l :: more, rfl, by simpa using hl, fun y hy => by rcases List.mem_cons.mp hy with rfl | hy; exact h1; exact h3 y hy⟩
    obtain ⟨hko, hkl⟩ := circ_ok hc
    walk_at "e"
    refine ed_addL (by simp; omega) ?_
    walk_at "e"
    have hel := hc.half.elen
    refine ⟨_, rfl, 1 + v2, ks ++ more, es, ?_, ⟨by omega, ?_, by simp; omega⟩, by omega, by omega, circ_round hc (by omega), by omega, by omega, by simp; omega, hR.mono (by omega)⟩
    · rw [← List.map_append]; rfl
    · intro l hl
      rcases List.mem_append.mp hl with hl | hl
      · exact hko l hl
      · exact hmo l hl
end Sp
end

end Lw

set_option maxHeartbeats 4000000
namespace Lw
open PySem Fu
local macro_rules | `(tactic| walk_at "e1") => `(tactic| first
  | with_reducible refine eo_seq ?_ | (with_reducible refine then_nx' ?_; refine ⟨?_, ?_, ?_⟩; rotate_left; · (try dsimp only [List.set, List.length_cons, List.length_nil, List.cons_append, List.nil_append, Nat.zero_add, Nat.reduceAdd]); exact rfl) | with_reducible refine then_rt ?_ | with_reducible refine eo_if ?_ | with_reducible refine eo_ret ?_ | with_reducible refine eo_set ?_ | with_reducible refine eo_asg ?_ | with_reducible refine eo_drop ?_ | with_reducible refine eo_nx ?_ | with_reducible refine eo_par ?_ | with_reducible refine eo_own ?_ | with_reducible refine eo_retN ?_ | with_reducible refine eo_for ?_ | with_reducible refine eo_retO ?_
  | with_reducible refine ev_c ?_ | (with_reducible refine ev_var ?_; refine ⟨_, rfl, ?_⟩) | with_reducible refine ev_bin ?_ | with_reducible refine ev_un ?_ | with_reducible refine ev_nil ?_ | with_reducible refine ev_cons ?_
  | with_reducible refine ev_tup ?_ | with_reducible refine ev_lst ?_ | with_reducible refine ev_call ?_ | with_reducible refine ev_callF ?_ | with_reducible refine ev_isi ?_ | with_reducible refine ev_isi2 ?_ | with_reducible refine ev_andV ?_ | with_reducible refine ev_orV ?_ | with_reducible refine ev_notV ?_
  | with_reducible refine ev_B ?_ | with_reducible refine ev_and ?_ | with_reducible refine ev_or ?_ | with_reducible refine ev_not ?_ | with_reducible refine ev_yes ?_ | with_reducible refine ev_if ?_ | with_reducible refine ev_no ?_ | with_reducible refine ev_so ?_ | with_reducible refine ev_sl ?_ | with_reducible refine ev_items ?_
  | (with_reducible refine ev_ixO ?_; refine ⟨_, _, rfl, rfl, ?_⟩) | (with_reducible refine ev_varO ?_; refine ⟨_, _, rfl, rfl, ?_⟩) | (with_reducible refine ev_lenO ?_; refine ⟨_, _, rfl, rfl, ?_⟩) | (with_reducible refine ev_scrSl ?_; refine ⟨_, rfl, ?_⟩) | (with_reducible refine ev_scrLen ?_; refine ⟨_, rfl, ?_⟩) | (with_reducible refine ev_callScr ?_; refine ⟨_, rfl, ?_⟩) | (with_reducible refine ev_OL ?_; refine ⟨_, _, rfl, rfl, ?_⟩) | with_reducible refine ev_OR ?_ | with_reducible refine ev_rep ?_ | with_reducible refine ev_listRng1 ?_ | with_reducible refine eo_setO ?_
  | with_reducible refine es_name ?_ | with_reducible refine es_tup2 ?_ | with_reducible refine es_tup3 ?_
  | with_reducible refine ed_addI ?_ | with_reducible refine ed_subI ?_ | with_reducible refine ed_cmp ?_ | with_reducible refine ed_eqI ?_ | with_reducible refine ed_neI ?_ | with_reducible refine ed_slT ?_ | with_reducible refine ed_slL ?_ | with_reducible refine ed_lenT ?_ | with_reducible refine ed_lenL ?_ | with_reducible refine ed_lenS ?_ | with_reducible refine ed_inS ?_ | with_reducible refine ed_itT ?_ | with_reducible refine ed_itL ?_ | with_reducible refine ed_tupL ?_ | with_reducible refine ed_tupT ?_ | with_reducible refine ed_listL ?_ | with_reducible refine ed_listT ?_ | with_reducible refine ed_neg ?_ | with_reducible refine ed_max ?_ | with_reducible refine ed_min ?_ | with_reducible refine ed_intB ?_
  | with_reducible refine ev_rng1 ?_ | with_reducible refine ev_rng2 ?_)
local macro_rules | `(tactic| walk_at "sd") => `(tactic| first | rfl | assumption | (simp only [decide_eq_true_eq, decide_eq_false_iff_not, Bool.not_eq_true', Bool.not_eq_false', Bool.and_eq_true, Bool.or_eq_true, List.length_map, List.length_cons, List.length_nil, List.length_append, List.length_range] at *; omega))
local macro_rules | `(tactic| walk_at "e2") => `(tactic| first
  | walk_at "e1" | with_reducible refine ⟨_, rfl, ?_⟩ | with_reducible refine ⟨_, _, rfl, ?_⟩
  | with_reducible refine And.intro (Eq.refl (List.length _)) ?_ | with_reducible refine And.intro (Nat.le_of_ble_eq_true (n := List.length _) rfl) ?_
  | with_reducible refine And.intro (Eq.refl (_ : Sx)) (?_ : Ed _ _)
  | ((with_reducible refine And.intro ?_ (And.intro ?_ (?_ : Ev _ _))); (· rfl); (· rfl))
  | ((with_reducible refine ed_ixT ?_ ?_ ?_); (· decide); (· rfl)) | ((with_reducible refine ed_ixL ?_ ?_ ?_); (· decide); (· rfl)) | ((with_reducible refine ed_at ?_ ?_ ?_); (· decide); (· rfl))
  | ((with_reducible refine ed_modI ?_ ?_); (· first | decide | omega))
  | with_reducible exact gives_nx | ((with_reducible refine gives_rt ?_); (· rfl)) | ((with_reducible refine And.intro ?_ ?_); (· exact rfl); (· with_reducible exact Eq.refl (_ : Sx))))
local macro_rules | `(tactic| walk_at "e") => `(tactic| repeat walk_at "e2")
/-- begin a def's spec -/
local macro_rules | `(tactic| walk_at "i") => `(tactic| simp only [initS, List.map_cons, List.map_nil, List.length_cons, List.length_nil, Nat.reduceAdd, Nat.reduceSub, List.replicate, List.cons_append, List.nil_append])
/-- a known truth decides -/
local macro_rules | `(tactic| walk_at "t") => `(tactic| first | ((with_reducible refine split_t ?_ ?_); (· walk_at "sd")) | ((with_reducible refine split_t' ?_ ?_); (· walk_at "sd")))
local macro_rules | `(tactic| walk_at "f") => `(tactic| first | ((with_reducible refine split_f ?_ ?_); (· walk_at "sd")) | ((with_reducible refine split_f' ?_ ?_); (· walk_at "sd")))
/-- all that is seen in a look -/
local macro_rules | `(tactic| walk_at "v") => `(tactic| (rw [sealAll_mk (by (simp only [List.set_cons_zero, List.set_cons_succ, List.map_cons, List.map_nil, sealS_none, sealS_dat, sealS_scr, sealS_own, List.getElem?_cons_zero, List.getElem?_cons_succ, sealC_lst]; rfl)) (by (simp only [List.set_cons_zero, List.set_cons_succ, List.map_cons, List.map_nil]; rfl))]))

section
/-! ### the law's own looks -/
theorem x__law_other {d : D} {e : Int × Int} (s : IsEn d e) : m__law_other [d] = some (en (far e)) := by
  unfold m__law_other; refine mF_of ?_; walk_at "i"; unfold g__law_other
  walk_at "e"
  refine ed_ixQ s (by decide) rfl ?_
  walk_at "e"
  refine ed_ixQ s (by decide) rfl ?_
  walk_at "e"
end

section
namespace Sp
theorem ev_drawR {sl : List (Option R)} {os : List (Option Cell)} {i : Nat} {g : M (List D)} {Q : D → Sx → Prop}
    (h : ∃ j, sl[i]? = some (some (.own j)) ∧ Ev (g ⟨sl, os⟩) fun ds S1 => ∃ cs many c, S1.os[j]? = some (some (.lst cs)) ∧ ds = [.int many] ∧ Reel c cs ∧ 1 ≤ c ∧ 0 < many ∧ many ≤ 18446744073709551616 ∧ ∀ v cs', 0 ≤ v → v < many → Reel (c - 1) cs' → Q (.int v) ⟨S1.sl, S1.os.set j (some (.lst cs'))⟩) : Ev (gIO i 1 m__law_draw_k15 g ⟨sl, os⟩) Q := by
  obtain ⟨j, hi, h⟩ := h
  refine ev_IO ⟨j, hi, h.mono ?_⟩
  rintro ds S1 ⟨cs, many, c, hc, rfl, hR, c1, m0, m1, h⟩
  obtain ⟨d, cs', e, v, rfl, v0, v1, hR'⟩ := x_draw (b := c - 1) (hR.mono (by omega)) m0 m1
  exact ⟨cs, hc, rfl, _, cs', e, h v cs' v0 v1 hR'⟩
end Sp
end

section
namespace Sp
end Sp
end

section
namespace Sp
end Sp
end

section
namespace Sp
end Sp
end

section
namespace Sp
theorem x__law_handed {c : Nat} {cs : List D} {d : D} (hR : Reel c cs) (hc : 1 ≤ c) (hd : d.depth < 8) : ∃ z cs', m__law_handed cs [d] = some (z, cs') ∧ (z = d ∨ z = listsD d) ∧ Reel (c - 1) cs' := by
  unfold m__law_handed; refine mIO_of ?_; walk_at "i"; unfold g__law_handed
  walk_at "e"
  refine ev_drawR ⟨_, rfl, ?_⟩
  walk_at "e"
  refine ⟨_, _, _, rfl, rfl, hR, by omega, by decide, by decide, fun v cs a b hR => ?_⟩
  walk_at "e"
  refine ⟨fun _ => ?_, fun _ => ?_⟩
  · walk_at "e"
    exact ⟨cs, rfl, .inl rfl, hR⟩
  · walk_at "e"
    refine Ed.of (x_lists 8 d hd) ?_
    exact ⟨cs, rfl, .inr rfl, hR⟩
end Sp
end

section
namespace Bg
/-! ### the bag -/
structure Bag (b : Nat) (cs : List D) : Prop where
  ex : ∃ (ns : List Int) (pos : Nat) (rest cnt total : Int), cs = [.list (ns.map .int), .int pos, .int rest, .int cnt, .int total] ∧ ns.length ≤ 63 ∧ pos ≤ ns.length ∧ 0 ≤ rest ∧ 0 ≤ cnt ∧ cnt + b ≤ 4294967296 ∧ 0 ≤ total ∧ total < 2305843009213693951
theorem Bag.mono {a b : Nat} {cs : List D} (h : Bag a cs) (l : b ≤ a) : Bag b cs := by
  obtain ⟨f, s, n, t, u, h1, h2, h3, h4, h5, h6, h7⟩ := h
  exact ⟨f, s, n, t, u, h1, h2, h3, h4, h5, by omega, h7⟩
end Bg
end

section
namespace Bg
end Bg
end

section
namespace Bg
open Sp
/-! ### a walk's lines, plainly -/
def lnAt (sp : List Int) (sg : List Nat) (i : Nat) (s : Int) : Ln := if s = 0 then (sp.getD i 0, sp.getD (i + 1) 0, sg.getD i 0) else (sp.getD (i + 1) 0, sp.getD i 0, sg.getD i 0)
structure Wk (n k : Nat) (sp : List Int) (od sg : List Nat) (qs : List (Option Ln)) (es : List (Int × Int)) : Prop where
  qlen : qs.length = n
  elen : es.length = k
  glen : sg.length = k
  at' : ∀ i, i < k → ∃ m s, od[i]? = some m ∧ (s = 0 ∨ s = 1) ∧ es[i]? = some ((m : Int), s) ∧ qs[m]? = some (some (lnAt sp sg i s))
theorem getD_add {α : Type} {xs : List α} {x d : α} {i : Nat} (h : i < xs.length) : (xs ++ [x]).getD i d = xs.getD i d := by
  rw [List.getD_eq_getElem?_getD, List.getD_eq_getElem?_getD, List.getElem?_append_left h]
theorem Wk.zero (n : Nat) (sp : List Int) (od : List Nat) : Wk n 0 sp od [] (List.replicate n none) [] := ⟨by simp, rfl, rfl, fun i h => absurd h (Nat.not_lt_zero _)⟩
theorem Wk.step {n k m : Nat} {sp : List Int} {od sg : List Nat} {qs : List (Option Ln)} {es : List (Int × Int)} {s : Int} {c : Nat} (h : Wk n k sp od sg qs es) (hnd : od.Nodup) (hm : od[k]? = some m) (hmn : m < n) (hs : s = 0 ∨ s = 1) :
    Wk n (k + 1) sp od (sg ++ [c]) (qs.set m (some (lnAt sp (sg ++ [c]) k s))) (es ++ [((m : Int), s)]) := by
  have hlt : m < qs.length := by rw [h.qlen]; exact hmn
  refine ⟨by simp [h.qlen], by simp [h.elen], by simp [h.glen], fun i hi => ?_⟩
  rcases Nat.lt_succ_iff_lt_or_eq.mp hi with hi | rfl
  · obtain ⟨m2, s2, h1, h2, h3, h4⟩ := h.at' i hi
    refine ⟨m2, s2, h1, h2, by rw [List.getElem?_append_left (by rw [h.elen]; exact hi)]; exact h3, ?_⟩
    have hne : m ≠ m2 := by
      rintro rfl
      obtain ⟨l1, e1⟩ := List.getElem?_eq_some_iff.mp hm
      obtain ⟨l2, e2⟩ := List.getElem?_eq_some_iff.mp h1
      have := (List.getElem_inj hnd).mp (e1.trans e2.symm)
      omega
    rw [List.getElem?_set_ne hne, h4]
    unfold lnAt
    rw [getD_add (by rw [h.glen]; exact hi)]
  · exact ⟨m, s, hm, hs, by rw [List.getElem?_append_right (by rw [h.elen]; exact Nat.le_refl _), h.elen, Nat.sub_self]; rfl, by rw [List.getElem?_set_self hlt]⟩
/-- a walk's web and ride -/
structure Walked (n : Nat) (sp : List Int) (od sg : List Nat) (ls : List Ln) (es : List (Int × Int)) : Prop where
  llen : ls.length = n
  elen : es.length = n
  glen : sg.length = n
  nd : od.Nodup
  at' : ∀ i, i < n → ∃ m s, od[i]? = some m ∧ (s = 0 ∨ s = 1) ∧ es[i]? = some ((m : Int), s) ∧ ls[m]? = some (lnAt sp sg i s)
theorem Wk.done {n : Nat} {sp : List Int} {od sg : List Nat} {qs : List (Option Ln)} {es : List (Int × Int)} (h : Wk n n sp od sg qs es) (hp : od.Perm (List.range n)) : ∃ ls : List Ln, qs = ls.map some ∧ Walked n sp od sg ls es := by
  have hl : od.length = n := by simpa using hp.length_eq
  obtain ⟨ls, rfl⟩ := all_some (qs := qs) fun q hq => by
    obtain ⟨m, hm⟩ := List.mem_iff_getElem?.mp hq
    have hlt := (List.getElem?_eq_some_iff.mp hm).1
    rw [h.qlen] at hlt
    have : m ∈ od := hp.mem_iff.mpr (List.mem_range.mpr hlt)
    obtain ⟨i, hi⟩ := List.mem_iff_getElem?.mp this
    have hin := (List.getElem?_eq_some_iff.mp hi).1
    obtain ⟨m2, s, e1, _, _, e4⟩ := h.at' i (by omega)
    rw [hi] at e1; cases e1
    rw [hm] at e4; cases e4
    exact ⟨_, rfl⟩
  refine ⟨ls, rfl, by have := h.qlen; simpa using this, h.elen, h.glen, hp.nodup_iff.mpr List.nodup_range, fun i hi => ?_⟩
  obtain ⟨m, s, e1, e2, e3, e4⟩ := h.at' i hi
  rw [List.getElem?_map] at e4
  obtain ⟨l, e5, e6⟩ := Option.map_eq_some_iff.mp e4
  cases e6
  exact ⟨m, s, e1, e2, e3, e5⟩
theorem Walked.at {n : Nat} {sp : List Int} {od sg : List Nat} {ls : List Ln} {es : List (Int × Int)} (h : Walked n sp od sg ls es) {i : Nat} (hi : i < n) :
    ∃ e, es[i]? = some e ∧ EndOk ls.length e ∧ plc ls e = sp.getD i 0 ∧ plc ls (far e) = sp.getD (i + 1) 0 ∧ cmpy ls e = sg.getD i 0 := by
  obtain ⟨m, s, _, hs, h1, h2⟩ := h.at' i hi
  have hm := (List.getElem?_eq_some_iff.mp h2).1
  refine ⟨_, h1, ⟨by simp, by simpa using hm, by simp only; omega, by simp only; omega⟩, ?_, ?_, ?_⟩
  · unfold plc
    simp only [Int.toNat_natCast, h2]
    rcases hs with rfl | rfl <;> simp [sideOf, lnAt]
  · unfold plc far
    simp only [Int.toNat_natCast, h2]
    rcases hs with rfl | rfl <;> simp [sideOf, lnAt]
  · unfold cmpy
    simp only [Int.toNat_natCast, h2]
    rcases hs with rfl | rfl <;> simp [lnAt]
/-- companies: neighbours unlike -/
def Adj (sg : List Nat) : Prop := ∀ i a b, sg[i]? = some a → sg[i + 1]? = some b → a ≠ b
theorem Adj.add {sg : List Nat} {c : Nat} (h : Adj sg) (h2 : sg ≠ [] → c ≠ lastN sg) : Adj (sg ++ [c]) := by
  intro i a b ha hb
  by_cases h1 : i + 1 < sg.length
  · rw [List.getElem?_append_left (by omega)] at ha
    rw [List.getElem?_append_left h1] at hb
    exact h i a b ha hb
  · have hi := (List.getElem?_eq_some_iff.mp hb).1
    rw [List.length_append, List.length_singleton] at hi
    have e : i + 1 = sg.length := by omega
    have hne : sg ≠ [] := by intro z; rw [z] at e; simp at e
    rw [List.getElem?_append_left (by omega)] at ha
    rw [e, List.getElem?_append_right (Nat.le_refl _), Nat.sub_self] at hb
    have hbc : c = b := by simpa using hb
    have hla : lastN sg = a := by
      unfold lastN
      rw [List.getLast?_eq_getElem?, show sg.length - 1 = i by omega, ha]; rfl
    subst hbc
    rw [← hla]
    exact fun z => h2 hne z.symm
end Bg
end

section
namespace Bg
open Sp
end Bg
end

section
namespace Bg
open Sp
end Bg
end

section
/-! ### rounds handed in, places, the other way about: of any data -/
theorem isEn_tup {d : D} {e : Int × Int} (s : IsEn d e) {Q : D → Prop} (q : Q (en e)) : Ed (dTuple [d]) Q := ed_tupQ s q
theorem x_need_round {w : D} {p : Int} {ls : List Ln} {d : D} {es : List (Int × Int)} (hw : Web w p ls) (h : WbOk p ls) (hd : IsRide d es) (hz : es.length ≤ 4000) (hr : roundB ls es = true) : m_need_round [w, d] = some (lE es) := by
  have hr' : roundD ls d = true := by rw [roundD_of hd]; exact hr
  obtain ⟨ps, s, rfl, hp⟩ := hd
  have hl : lenD d ≤ 4000 := by rw [lenD_of s]; simpa using hz
  unfold m_need_round; refine mF_of ?_; walk_at "i"; unfold g_need_round
  walk_at "e"
  refine Ed.of (x_round_is hw h d hl) ?_
  rw [hr']
  walk_at "e"
  walk_at "f"
  walk_at "e"
  refine ev_mapX (xs := ps) (enc := (·.1)) (g := fun q => en q.2) ?_
  walk_at "e"
  refine ed_itQ s ⟨rfl, fun q hq => ?_, ?_⟩
  · walk_at "e"
    exact isEn_tup (hp q hq) ⟨rfl, rfl⟩
  · walk_at "e"
    rw [gives_rtI]; unfold lE; rw [List.map_map]; rfl
theorem x_faced_about {es : List (Int × Int)} : m_faced_about [lE es] = some (lE (rv es)) := by
  unfold m_faced_about lE; refine mF_of ?_; walk_at "i"; unfold g_faced_about
  walk_at "e"
  refine ev_mapX (xs := es.reverse) (enc := en) (g := fun e => en (far e)) ?_
  walk_at "e"
  refine ed_rev ?_
  walk_at "e"
  refine ⟨by rw [List.map_reverse], fun e he => ?_, ?_⟩
  · walk_at "e"
    exact Ed.of (x_far_end (isEn_en e)) ⟨rfl, rfl⟩
  · walk_at "e"
    rw [gives_rtI]
    unfold rv
    rw [List.map_map]; rfl
/-! ### turnings -/
def put (t : List Nat) (es : List (Int × Int)) : List (Int × Int) := match t with
  | [i, j] => es.take i ++ rv ((es.take j).drop i) ++ es.drop j
  | [i, j, k, l] => es.take i ++ (es.take l).drop k ++ (es.take k).drop j ++ (es.take j).drop i ++ es.drop l
  | _ => es
/-! ### which turnings may be -/
def mates (ps : List Int) (i : Nat) : List Nat := ((List.range (ps.length - (i + 1))).map fun k => i + 1 + k).filter fun j => decide (ps.getD j 0 = ps.getD i 0)
def pairs (ps : List Int) (n : Nat) : List (List Nat) := (List.range n).flatMap fun i => (mates ps i).map fun j => [i, j]
end

section
/-! ### what may raise -/
section
variable {α : Type} {S : Sx} {g h : Sx → Option (Zr Out)} {Z : Zr Out → Prop}
end
/-! ### the refusals -/
end

section
/-! ### the five deeds -/
end

section
/-! ### the deeds, refused or not -/
section
variable {α : Type} {S : Sx} {g h : Sx → Option (Zr Out)} {Z : Zr Out → Prop}
end
section
variable {w : D} {p : Int} {ls : List Ln} {a b c : D}
theorem place_of {n : Int} {d : D} (h : placeD n d = true) : ∃ i : Int, d = .int i ∧ 0 ≤ i ∧ i < n := by
  cases d <;> simp [placeD] at h
  exact ⟨_, rfl, h.1, h.2⟩
end
end

section
namespace Rl
open Lw
def told : Except Str D → Str
  | .ok _ => "none"
  | .error c => c
end Rl
end

section
theorem ev_callN2 {S : Sx} {n : Nat} {f : List D → Option (List D)} {g : M (List D)} {Q : D → Sx → Prop} (h : Ev (g S) fun ds S1 => ds.length = n ∧ Ed (f ds) fun z => Q (.list z) S1) : Ev (gCallN n f g S) Q := by
  obtain ⟨ds, S1, e1, l, z, e2, q⟩ := h
  exact ⟨_, S1, by simp only [gCallN, e1, Option.bind_some, if_pos l, e2], q⟩
theorem ev_clr {S : Sx} {i : Nat} {Q : D → Sx → Prop} (h : ∃ j cs, S.sl[i]? = some (some (.own j)) ∧ S.os[j]? = some (some (.lst cs)) ∧ Q .none ⟨S.sl, S.os.set j (some (.lst []))⟩) : Ev (gClr i S) Q := by
  obtain ⟨j, cs, h1, h2, q⟩ := h
  exact ⟨_, _, by simp only [gClr, ownOf, h1, h2, Fu.cellOf, Option.bind_some, setCell], q⟩
/-! ### what is no ride is refused -/
end

section
theorem alike_en (e f : Int × Int) : PySem.W.alike (en e) (en f) = true := rfl
theorem alike_ens : ∀ es fs : List (Int × Int), PySem.W.alikeAll (es.map en) (fs.map en) = true
  | [], _ => by simp [PySem.W.alikeAll]
  | _ :: _, [] => by simp [PySem.W.alikeAll]
  | e :: es, f :: fs => by
    simp only [List.map_cons, PySem.W.alikeAll, alike_en, alike_ens es fs, Bool.and_self]
theorem alike_lE (es fs : List (Int × Int)) : PySem.W.alike (lE es) (lE fs) = true := by
  unfold lE
  simp only [PySem.W.alike]
  exact alike_ens es fs
theorem good_lE (es : List (Int × Int)) : Good 2 (lE es) := good_list fun d hd => by
  obtain ⟨e, _, rfl⟩ := List.mem_map.mp hd
  exact good_tup fun x hx => by
    simp only [List.mem_cons, List.not_mem_nil, or_false] at hx
    rcases hx with rfl | rfl <;> exact good_int _
theorem pickOk_lE (ws : List (List (Int × Int))) : pickOk (ws.map lE) = true := by
  have hm : ∀ d ∈ ws.map lE, ∃ w, d = lE w := fun d hd => by
    obtain ⟨w, _, rfl⟩ := List.mem_map.mp hd
    exact ⟨w, rfl⟩
  obtain ⟨a, b⟩ := fine_all (n := 2) (ds := ws.map lE) fun d hd => by
    obtain ⟨w, rfl⟩ := hm d hd
    exact (good_lE w).fine
  unfold pickOk
  simp only [Bool.and_eq_true, decide_eq_true_eq, List.all_eq_true]
  refine ⟨⟨⟨fun d hd e he => ?_, fun d hd => ?_⟩, by omega⟩, a⟩
  · obtain ⟨w, rfl⟩ := hm d hd
    obtain ⟨v, rfl⟩ := hm e he
    exact alike_lE w v
  · obtain ⟨w, rfl⟩ := hm d hd
    rfl
theorem ed_least {ws : List (List (Int × Int))} {Q : D → Prop} (h : ws ≠ []) (q : ∀ m, IsLeast ws m → Q (lE m)) : Ed (dPick PySem.W.minD [.list (ws.map lE)]) Q := by
  cases ws with
  | nil => exact absurd rfl h
  | cons w ws =>
    obtain ⟨m, e, hm⟩ := min_least (w := w) (ws := ws)
    refine ⟨lE m, ?_, q m hm⟩
    have := pickOk_lE (w :: ws)
    rw [List.map_cons] at this ⊢
    simp only [dPick, this, if_true, e]
def rots (fs : List (Int × Int)) : List (List (Int × Int)) := (List.range fs.length).map fun k => rot k fs
end

section
namespace Ws
/-! ### lists of new lists -/
theorem turnsR_map {α : Type} {gg : D → Sx → Option Sx} {ge : Sx → Option (R × Sx)} {vs : List Nat} {w : List (Option R)} {enc : α → D} {f : α → List D} : ∀ (xs : List α) (sl : List (Option R)) (os : List (Option Cell)), wipeS sl vs = w →
    (∀ x ∈ xs, ∀ os, ∃ sl1, gg (enc x) ⟨w, os⟩ = some ⟨sl1, os⟩ ∧ wipeS sl1 vs = w ∧ ge ⟨sl1, os⟩ = some (.own os.length, ⟨sl1, os ++ [some (.lst (f x))]⟩)) →
    ∃ sl', wipeS sl' vs = w ∧ gTurnsR gg gYes ge vs (xs.map enc) ⟨sl, os⟩ = some ((List.range xs.length).map (fun k => R.own (os.length + k)), ⟨sl', os ++ xs.map fun x => some (.lst (f x))⟩)
  | [], sl, os, e, _ => ⟨sl, e, by simp [gTurnsR]⟩
  | x :: xs, sl, os, e, h => by
    obtain ⟨sl1, h1, h2, h3⟩ := h x List.mem_cons_self os
    obtain ⟨sl', e', ih⟩ := turnsR_map xs sl1 (os ++ [some (.lst (f x))]) h2 fun y hy => h y (List.mem_cons_of_mem _ hy)
    refine ⟨sl', e', ?_⟩
    rw [List.map_cons]
    unfold gTurnsR
    simp only [e, h1, gYes, Option.bind_some, if_true, h3, ih]
    rw [List.length_cons, List.range_succ_eq_map, List.length_append, List.length_singleton]
    simp only [List.map_cons, List.map_map, List.append_assoc, List.singleton_append, Nat.add_zero]
    have : (fun k => R.own (os.length + 1 + k)) = (fun k => R.own (os.length + k)) ∘ Nat.succ := by
      funext k
      simp only [Function.comp]
      congr 1
      omega
    rw [this]
def ixs (a n : Nat) : List R := (List.range n).map fun k => R.own (a + k)
theorem ev_rLc {α : Type} {S : Sx} {gi : M (List D)} {gg : D → Sx → Option Sx} {ge : M D} {vs : List Nat} {xs : List α} {enc : α → D} {f : α → List D} {Q : R → Sx → Prop}
    (h : Ev (gi S) fun ds S1 => ds = xs.map enc ∧ (∀ x ∈ xs, ∀ os, Es (gg (enc x) ⟨wipeS S1.sl vs, os⟩) fun S2 => wipeS S2.sl vs = wipeS S1.sl vs ∧ S2.os = os ∧ Ev (ge S2) fun d S3 => d = .list (f x) ∧ S3 = S2) ∧
      Q (.own (S1.os.length + xs.length)) ⟨S1.sl, S1.os ++ (xs.map fun x => some (.lst (f x))) ++ [some (.lR (ixs S1.os.length xs.length))]⟩) : Ev (rLc gi gg gYes (rNew ge) vs S) Q := by
  obtain ⟨ds, ⟨sl, os⟩, e1, rfl, h1, q⟩ := h
  obtain ⟨sl', h2, h3⟩ := turnsR_map (gg := gg) (ge := rNew ge) (enc := enc) (f := f) xs sl os rfl fun x hx os => by
    obtain ⟨⟨sl2, os2⟩, e2, e3, e4, d, S3, e5, rfl, e6⟩ := h1 x hx os
    simp only at e4
    subst e4 e6
    exact ⟨sl2, e2, e3, by simp only [rNew, e5, Option.bind_some]⟩
  refine ⟨_, _, ?_, q⟩
  unfold rLc
  simp only [e1, Option.bind_some, h3, backS_same h2, List.length_append, List.length_map]
  rfl
theorem ev_extLR {S : Sx} {i : Nat} {gr : Sx → Option (R × Sx)} {Q : D → Sx → Prop} (h : ∃ j rs0, S.sl[i]? = some (some (.own j)) ∧ S.os[j]? = some (some (.lR rs0)) ∧ Ev (gr S) fun r S1 => ∃ j2 rs rs2, r = .own j2 ∧ S1.os[j]? = some (some (.lR rs)) ∧ S1.os[j2]? = some (some (.lR rs2)) ∧ rs.length + rs2.length ≤ 16777216 ∧
      Q .none ⟨S1.sl, S1.os.set j (some (.lR (rs ++ rs2)))⟩) : Ev (gExtLR i gr S) Q := by
  obtain ⟨j, rs0, h1, h2, r, S1, e1, j2, rs, rs2, rfl, h3, h4, h5, q⟩ := h
  refine ⟨_, _, ?_, q⟩
  unfold gExtLR
  simp only [h1, h2, e1, Option.bind_some, h3, h4, line_eq, if_pos h5]
theorem eo_setR {S : Sx} {i : Nat} {g : Sx → Option (R × Sx)} {Q : Out → Prop} (h : Ev (g S) fun r S1 => Q (.nx ⟨S1.sl.set i (some r), S1.os⟩)) : Eo (qSetR i g S) Q := by
  obtain ⟨r, S1, e, q⟩ := h
  exact ⟨_, by simp only [qSetR, e, Option.bind_some], q⟩
def blk (fs : List (Int × Int)) : List (Option Cell) := (rots fs).map fun w => some (.lst (w.map en))
theorem blk_len (fs : List (Int × Int)) : (blk fs).length = fs.length := by unfold blk rots; simp
theorem mapO_map {α β γ : Type} {f : β → Option γ} {h : α → β} {g : α → γ} : ∀ {xs : List α}, (∀ x ∈ xs, f (h x) = some (g x)) → mapO f (xs.map h) = some (xs.map g)
  | [], _ => rfl
  | x :: xs, hh => by
    rw [List.map_cons]
    unfold mapO
    rw [hh x List.mem_cons_self, Option.bind_some, mapO_map fun y hy => hh y (List.mem_cons_of_mem _ hy)]
    rfl
theorem mapO_app {β γ : Type} {f : β → Option γ} : ∀ {xs ys : List β} {a b : List γ}, mapO f xs = some a → mapO f ys = some b → mapO f (xs ++ ys) = some (a ++ b)
  | [], ys, a, b, e1, e2 => by cases e1; exact e2
  | x :: xs, ys, a, b, e1, e2 => by
    obtain ⟨y, h1, e1⟩ := bind_inv e1
    obtain ⟨zs, h2, rfl⟩ := Option.map_eq_some_iff.mp e1
    rw [List.cons_append]
    unfold mapO
    rw [h1, Option.bind_some, mapO_app h2 e2]
    rfl
theorem mapO_own (js : List Nat) : mapO ownIx (js.map R.own) = some js := by
  have := mapO_map (f := ownIx) (h := R.own) (g := fun j => j) (xs := js) fun _ _ => rfl
  rw [this, List.map_id']
theorem step_LL {w : D} {fs : List (Int × Int)} {x3 : Option R} {rs : List R} {tl : List (Option Cell)} (hz : fs.length ≤ 4000) (hr : rs.length ≤ 4000) {Q : Out → Prop}
    (q : Q (.nx ⟨[some (.dat w), some (.own 0), some (.dat (lE fs)), x3], some (.lR (rs ++ ixs (tl.length + 1) fs.length)) :: (tl ++ blk fs ++ [some (.lR (ixs (tl.length + 1) fs.length))])⟩)) :
    Eo (qDrop (gExtLR 1 (rLc (gRng1 (gCons (gCall dLen (gCons (gVar 2) gNil)) gNil)) (sName 3) gYes (rNew (gRep dAdd (gSl (gVar 2) (gSo (gVar 3)) gNo) (gSl (gVar 2) gNo (gSo (gVar 3))))) [3])) ⟨[some (.dat w), some (.own 0), some (.dat (lE fs)), x3], some (.lR rs) :: tl⟩) Q := by
  walk_at "e"
  refine ev_extLR ⟨_, _, rfl, rfl, ?_⟩
  refine ev_rLc (xs := List.range fs.length) (enc := fun i : Nat => PyData.int (i : Int)) (f := fun k => (rot k fs).map en) ?_
  walk_at "e"
  refine ed_lenQ (sq_l _) ?_
  walk_at "e"
  rw [List.length_map]
  refine ⟨by omega, by omega, by rw [rng0]; rfl, fun k hk os => ?_, ?_⟩
  · rw [List.mem_range] at hk
    walk_at "e"
    show Ed (dSl (.list (fs.map en)) _ _) _
    walk_at "e"
    show Ed (dSl (.list (fs.map en)) _ _) _
    walk_at "e"
    rw [cut_from (by omega), cut_to (by omega)]
    refine ed_addL (by simp; omega) ⟨_, rfl, ?_, ?_⟩
    · unfold rot
      rw [Int.toNat_natCast, List.map_append, List.map_drop, List.map_take]
    · rfl
  · have hb : (List.range fs.length).map (fun k => some (Cell.lst ((rot k fs).map en))) = blk fs := by unfold blk rots; rw [List.map_map]; rfl
    rw [hb, List.length_range]
    have hl : (ixs (tl.length + 1) fs.length).length = fs.length := by unfold ixs; simp
    refine ⟨tl.length + 1 + fs.length, rs, ixs (tl.length + 1) fs.length, rfl, rfl, ?_, by omega, ?_⟩
    · show ((some (Cell.lR rs) :: tl) ++ blk fs ++ [some (Cell.lR (ixs (tl.length + 1) fs.length))])[tl.length + 1 + fs.length]? = _
      rw [List.getElem?_append_right (by simp [blk_len]; omega), List.length_append, blk_len, List.length_cons, Nat.sub_self]
      rfl
    · exact q
theorem x_all_ways_LL {es : List (Int × Int)} (hz : es.length ≤ 4000) : m_all_ways_LL [lE es] = some ((ways es).map fun w => w.map en) := by
  have hrl := rv_len es
  have key : Eo (g_all_ways_LL ⟨initS 4 [lE es], []⟩) fun o => ∃ sl, o = .ro 0 ⟨sl, some (.lR (ixs 1 es.length ++ ixs (es.length + 2) es.length)) :: (blk es ++ some (.lR (ixs 1 es.length)) :: (blk (rv es) ++ [some (.lR (ixs (es.length + 2) es.length))]))⟩ := by
    walk_at "i"; unfold g_all_ways_LL
    refine eo_seq ?_
    refine eo_setR ?_
    refine ⟨_, _, rfl, ?_⟩
    walk_at "e"
    refine Ed.of x_faced_about ?_
    walk_at "e"
    refine eo_loopX (xs := [es, rv es]) (enc := lE) (fun i S => ∃ x2 x3, S = ⟨[some (.dat (lE es)), some (.own 0), x2, x3], if i = 0 then [some (.lR [])] else if i = 1 then some (.lR (ixs 1 es.length)) :: (blk es ++ [some (.lR (ixs 1 es.length))]) else
      some (.lR (ixs 1 es.length ++ ixs (es.length + 2) es.length)) :: (blk es ++ some (.lR (ixs 1 es.length)) :: (blk (rv es) ++ [some (.lR (ixs (es.length + 2) es.length))]))⟩) ⟨_, _, rfl⟩ ?_ ?_
    · rintro i fs S hx ⟨x2, x3, rfl⟩
      refine es_name ?_
      match i, hx with
      | 0, h =>
        cases h
        refine step_LL (tl := []) hz (Nat.zero_le _) ?_
        exact ⟨_, rfl, _, _, rfl⟩
      | 1, h =>
        cases h
        refine step_LL (tl := blk es ++ [some (.lR (ixs 1 es.length))]) (rs := ixs 1 es.length) (fs := rv es) (by rw [hrl]; exact hz) (by unfold ixs; simp; omega) ?_
        rw [hrl, List.length_append, blk_len]
        simp only [List.length_cons, List.length_nil, List.append_assoc, List.cons_append, List.nil_append]
        exact ⟨_, rfl, _, _, rfl⟩
    · rintro S ⟨x2, x3, rfl⟩
      exact ⟨_, rfl, _, rfl⟩
  obtain ⟨o, e1, sl, rfl⟩ := key
  have ej : ixs 1 es.length ++ ixs (es.length + 2) es.length = ((List.range es.length).map (fun k => 1 + k) ++ (List.range es.length).map (fun k => es.length + 2 + k)).map R.own := by
    unfold ixs
    rw [List.map_append, List.map_map, List.map_map]
    rfl
  have hnd : (0 :: ((List.range es.length).map (fun k => 1 + k) ++ (List.range es.length).map (fun k => es.length + 2 + k))).Nodup := by
    refine List.nodup_cons.mpr ⟨fun hm => ?_, List.nodup_append.mpr ⟨?_, ?_, ?_⟩⟩
    · rcases List.mem_append.mp hm with h | h
      · obtain ⟨k, _, e⟩ := List.mem_map.mp h; omega
      · obtain ⟨k, _, e⟩ := List.mem_map.mp h; omega
    · exact List.pairwise_map.mpr (List.Pairwise.imp (fun h e => h (by omega)) (List.nodup_range (n := es.length)))
    · exact List.pairwise_map.mpr (List.Pairwise.imp (fun h e => h (by omega)) (List.nodup_range (n := es.length)))
    · intro a ha b hb e
      obtain ⟨k, hk, rfl⟩ := List.mem_map.mp ha
      obtain ⟨m, _, rfl⟩ := List.mem_map.mp hb
      rw [List.mem_range] at hk
      omega
  unfold m_all_ways_LL mLL
  simp only [e1, Option.bind_some, List.getElem?_cons_zero]
  rw [ej, mapO_own]
  simp only [Option.bind_some, if_pos hnd]
  rw [mapO_app (mapO_map (g := fun k => (rot k es).map en) fun k hk => ?_) (mapO_map (g := fun k => (rot k (rv es)).map en) fun k hk => ?_)]
  · unfold ways
    rw [List.map_append, List.map_map, List.map_map]
    rfl
  · rw [List.mem_range] at hk
    have : (blk es)[k]? = some (some (.lst ((rot k es).map en))) := by
      unfold blk rots
      rw [List.getElem?_map, List.getElem?_map, List.getElem?_range hk]
      rfl
    unfold Fu.cellOf
    rw [Nat.add_comm 1 k, List.getElem?_cons_succ, List.getElem?_append_left (by rw [blk_len]; exact hk), this]
  · rw [List.mem_range] at hk
    have : (blk (rv es))[k]? = some (some (.lst ((rot k (rv es)).map en))) := by
      unfold blk rots
      rw [List.getElem?_map, List.getElem?_map, List.getElem?_range (by omega)]
      rfl
    unfold Fu.cellOf
    rw [show es.length + 2 + k = (es.length + (k + 1)) + 1 by omega, List.getElem?_cons_succ, List.getElem?_append_right (by rw [blk_len]; omega), blk_len, show es.length + (k + 1) - es.length = k + 1 by omega, List.getElem?_cons_succ, List.getElem?_append_left (by rw [blk_len]; omega), this]
end Ws
end

section
theorem ed_ixLx {xs : List D} {i : Int} {Q : D → Prop} (h : ∃ d, 0 ≤ i ∧ xs[i.toNat]? = some d ∧ Q d) : Ed (dIx (.list xs) (.int i)) Q := by
  obtain ⟨d, h0, e, q⟩ := h
  exact ed_ixL h0 e q
theorem ed_ixTx {xs : List D} {i : Int} {Q : D → Prop} (h : ∃ d, 0 ≤ i ∧ xs[i.toNat]? = some d ∧ Q d) : Ed (dIx (.tuple xs) (.int i)) Q := by
  obtain ⟨d, h0, e, q⟩ := h
  exact ed_ixT h0 e q
theorem es_star {i j : Nat} {d : D} {ds : List D} {S : Sx} {W : Sx → Prop} (h : W ⟨(S.sl.set i (some (.dat d))).set j (some (.dat (.list ds))), S.os⟩) : Es (sStar1 (sCons (sName i) (sCons (sName j) sNil)) (.list (d :: ds)) S) W := ⟨_, rfl, h⟩
theorem ed_dneSelf {x : Str} {Q : D → Prop} (q : Q (.bool false)) : Ed (dNe (.str x) (.str x)) Q := ⟨_, dNe_str_self x, q⟩
theorem ed_deqSelf {x : Str} {Q : D → Prop} (q : Q (.bool true)) : Ed (dEq (.str x) (.str x)) Q := ⟨_, dEq_str_self x, q⟩
section
variable {P R : Prop}
theorem an_tt (h : P) : (true = true → P) ∧ (true = false → R) := ⟨fun _ => h, fun z => (nomatch z)⟩
theorem an_ft (h : P) : (false = true → R) ∧ (false = false → P) := ⟨fun z => (nomatch z), fun _ => h⟩
theorem an_tf (h : P) : (true = false → R) ∧ (true = true → P) := ⟨fun z => (nomatch z), fun _ => h⟩
theorem an_ff (h : P) : (false = false → P) ∧ (false = true → R) := ⟨fun _ => h, fun z => (nomatch z)⟩
theorem an_ntt (h : P) : ((!true) = true → R) ∧ ((!true) = false → P) := ⟨fun z => absurd z (by decide), fun _ => h⟩
theorem an_nft (h : P) : ((!false) = true → P) ∧ ((!false) = false → R) := ⟨fun _ => h, fun z => absurd z (by decide)⟩
theorem an_ntf (h : P) : ((!true) = false → P) ∧ ((!true) = true → R) := ⟨fun _ => h, fun z => absurd z (by decide)⟩
theorem an_nff (h : P) : ((!false) = false → R) ∧ ((!false) = true → P) := ⟨fun z => absurd z (by decide), fun _ => h⟩
end
end

end Lw

set_option maxHeartbeats 4000000
namespace Lw
open PySem Fu
local macro_rules | `(tactic| walk_at "e1") => `(tactic| first
  | with_reducible refine eo_seq ?_ | (with_reducible refine then_nx' ?_; refine ⟨?_, ?_, ?_⟩; rotate_left; · (try dsimp only [List.set, List.length_cons, List.length_nil, List.cons_append, List.nil_append, Nat.zero_add, Nat.reduceAdd]); exact rfl) | with_reducible refine then_rt ?_ | with_reducible refine eo_if ?_ | with_reducible refine eo_ret ?_ | with_reducible refine eo_set ?_ | with_reducible refine eo_asg ?_ | with_reducible refine eo_drop ?_ | with_reducible refine eo_nx ?_ | with_reducible refine eo_par ?_ | with_reducible refine eo_own ?_ | with_reducible refine eo_retN ?_ | with_reducible refine eo_for ?_ | with_reducible refine eo_retO ?_
  | with_reducible refine ev_c ?_ | (with_reducible refine ev_var ?_; refine ⟨_, rfl, ?_⟩) | with_reducible refine ev_bin ?_ | with_reducible refine ev_un ?_ | with_reducible refine ev_nil ?_ | with_reducible refine ev_cons ?_
  | with_reducible refine ev_tup ?_ | with_reducible refine ev_lst ?_ | with_reducible refine ev_call ?_ | with_reducible refine ev_callF ?_ | with_reducible refine ev_isi ?_ | with_reducible refine ev_isi2 ?_ | with_reducible refine ev_andV ?_ | with_reducible refine ev_orV ?_ | with_reducible refine ev_notV ?_
  | with_reducible refine ev_B ?_ | with_reducible refine ev_and ?_ | with_reducible refine ev_or ?_ | with_reducible refine ev_not ?_ | with_reducible refine ev_yes ?_ | with_reducible refine ev_if ?_ | with_reducible refine ev_no ?_ | with_reducible refine ev_so ?_ | with_reducible refine ev_sl ?_ | with_reducible refine ev_items ?_
  | (with_reducible refine ev_ixO ?_; refine ⟨_, _, rfl, rfl, ?_⟩) | (with_reducible refine ev_varO ?_; refine ⟨_, _, rfl, rfl, ?_⟩) | (with_reducible refine ev_lenO ?_; refine ⟨_, _, rfl, rfl, ?_⟩) | (with_reducible refine ev_scrSl ?_; refine ⟨_, rfl, ?_⟩) | (with_reducible refine ev_scrLen ?_; refine ⟨_, rfl, ?_⟩) | (with_reducible refine ev_callScr ?_; refine ⟨_, rfl, ?_⟩) | (with_reducible refine ev_OL ?_; refine ⟨_, _, rfl, rfl, ?_⟩) | with_reducible refine ev_OR ?_ | with_reducible refine ev_rep ?_ | with_reducible refine ev_listRng1 ?_ | with_reducible refine eo_setO ?_
  | with_reducible refine es_name ?_ | with_reducible refine es_tup2 ?_ | with_reducible refine es_tup3 ?_
  | with_reducible refine ed_addI ?_ | with_reducible refine ed_subI ?_ | with_reducible refine ed_cmp ?_ | with_reducible refine ed_eqI ?_ | with_reducible refine ed_neI ?_ | with_reducible refine ed_slT ?_ | with_reducible refine ed_slL ?_ | with_reducible refine ed_lenT ?_ | with_reducible refine ed_lenL ?_ | with_reducible refine ed_lenS ?_ | with_reducible refine ed_inS ?_ | with_reducible refine ed_itT ?_ | with_reducible refine ed_itL ?_ | with_reducible refine ed_tupL ?_ | with_reducible refine ed_tupT ?_ | with_reducible refine ed_listL ?_ | with_reducible refine ed_listT ?_ | with_reducible refine ed_neg ?_ | with_reducible refine ed_max ?_ | with_reducible refine ed_min ?_ | with_reducible refine ed_intB ?_
  | with_reducible refine ev_rng1 ?_ | with_reducible refine ev_rng2 ?_)
local macro_rules | `(tactic| walk_at "sd") => `(tactic| first | rfl | assumption | (simp only [decide_eq_true_eq, decide_eq_false_iff_not, Bool.not_eq_true', Bool.not_eq_false', Bool.and_eq_true, Bool.or_eq_true, List.length_map, List.length_cons, List.length_nil, List.length_append, List.length_range] at *; omega))
local macro_rules | `(tactic| walk_at "e2") => `(tactic| first
  | walk_at "e1" | with_reducible refine ⟨_, rfl, ?_⟩ | with_reducible refine ⟨_, _, rfl, ?_⟩
  | with_reducible refine And.intro (Eq.refl (List.length _)) ?_ | with_reducible refine And.intro (Nat.le_of_ble_eq_true (n := List.length _) rfl) ?_
  | with_reducible refine And.intro (Eq.refl (_ : Sx)) (?_ : Ed _ _)
  | ((with_reducible refine And.intro ?_ (And.intro ?_ (?_ : Ev _ _))); (· rfl); (· rfl))
  | ((with_reducible refine ed_ixTx ?_); refine ⟨_, by decide, rfl, ?_⟩) | ((with_reducible refine ed_ixLx ?_); refine ⟨_, by decide, rfl, ?_⟩) | ((with_reducible refine es_star ?_))
  | with_reducible refine an_tt ?_ | with_reducible refine an_ft ?_ | with_reducible refine an_tf ?_ | with_reducible refine an_ff ?_ | with_reducible refine an_ntt ?_ | with_reducible refine an_nft ?_ | with_reducible refine an_ntf ?_ | with_reducible refine an_nff ?_
  | ((with_reducible refine ed_dneSelf ?_)) | ((with_reducible refine ed_deqSelf ?_))
  | ((with_reducible refine ed_ixT ?_ ?_ ?_); (· decide); (· rfl)) | ((with_reducible refine ed_ixL ?_ ?_ ?_); (· decide); (· rfl)) | ((with_reducible refine ed_at ?_ ?_ ?_); (· decide); (· rfl))
  | ((with_reducible refine ed_modI ?_ ?_); (· first | decide | omega))
  | with_reducible exact gives_nx | ((with_reducible refine gives_rt ?_); (· rfl)) | ((with_reducible refine And.intro ?_ ?_); (· exact rfl); (· with_reducible exact Eq.refl (_ : Sx))))
local macro_rules | `(tactic| walk_at "e") => `(tactic| repeat walk_at "e2")
/-- begin a def's spec -/
local macro_rules | `(tactic| walk_at "i") => `(tactic| simp only [initS, List.map_cons, List.map_nil, List.length_cons, List.length_nil, Nat.reduceAdd, Nat.reduceSub, List.replicate, List.cons_append, List.nil_append])
/-- a known truth decides -/
local macro_rules | `(tactic| walk_at "t") => `(tactic| first | ((with_reducible refine split_t ?_ ?_); (· walk_at "sd")) | ((with_reducible refine split_t' ?_ ?_); (· walk_at "sd")))
local macro_rules | `(tactic| walk_at "f") => `(tactic| first | ((with_reducible refine split_f ?_ ?_); (· walk_at "sd")) | ((with_reducible refine split_f' ?_ ?_); (· walk_at "sd")))
/-- all that is seen in a look -/
local macro_rules | `(tactic| walk_at "v") => `(tactic| (rw [sealAll_mk (by (simp only [List.set_cons_zero, List.set_cons_succ, List.map_cons, List.map_nil, sealS_none, sealS_dat, sealS_scr, sealS_own, List.getElem?_cons_zero, List.getElem?_cons_succ, sealC_lst]; rfl)) (by (simp only [List.set_cons_zero, List.set_cons_succ, List.map_cons, List.map_nil]; rfl))]))

section
namespace Ws
theorem mN_exW {n : Nat} {g : Sx → Option Out} {ds : List D} {P : List D → Prop} (h : Eo (g ⟨initS n ds, []⟩) fun o => ∃ j S cs, o = .ro j S ∧ Fu.cellOf S j = some cs ∧ P cs) : ∃ cs, mN n g ds = some cs ∧ P cs := by
  obtain ⟨o, e, j, S, cs, rfl, h2, h3⟩ := h
  refine ⟨cs, ?_, h3⟩
  simp only [mN, e, Option.bind_some]
  exact h2
theorem ev_minLL {S : Sx} {n : Nat} {f : List D → Option (List (List D))} {g : M (List D)} {Q : D → Sx → Prop} (h : Ev (g S) fun ds S1 => ds.length = n ∧ Ed (f ds) fun zss => ∃ z zs w, zss = z :: zs ∧ pickOk (.list z :: zs.map .list) = true ∧ PySem.W.minD (.list z) (zs.map .list) = .list w ∧ Q (.list w) S1) : Ev (gMinLL n f g S) Q := by
  obtain ⟨ds, S1, e1, hl, zss, e2, z, zs, w, rfl, h3, h4, q⟩ := h
  refine ⟨_, _, ?_, q⟩
  unfold gMinLL
  simp only [e1, Option.bind_some, if_pos hl, e2, h3, if_true, h4]
theorem x_least_round_N {w d : D} {p : Int} {ls : List Ln} {es : List (Int × Int)} (hw : Web w p ls) (h : WbOk p ls) (hd : IsRide d es) (hz : es.length ≤ 4000) (hr : roundB ls es = true) (hn : es ≠ []) : ∃ m, m_least_round_N [w, d] = some (m.map en) ∧ IsLeast (ways es) m := by
  have key : ∃ cs, m_least_round_N [w, d] = some cs ∧ ∃ m : List (Int × Int), cs = m.map en ∧ IsLeast (ways es) m := by
    unfold m_least_round_N; refine mN_exW ?_; walk_at "i"; unfold g_least_round_N
    walk_at "e"
    refine ev_minLL ?_
    walk_at "e"
    refine Ed.of (x_need_round hw h hd hz hr) ?_
    walk_at "e"
    refine Ed.of (x_all_ways_LL hz) ?_
    have hne : ways es ≠ [] := by
      intro z
      have hl := congrArg List.length z
      unfold ways at hl
      simp at hl
      exact hn hl
    cases e : ways es with
    | nil => exact absurd e hne
    | cons v vs =>
      obtain ⟨m, h1, h2⟩ := min_least (w := v) (ws := vs)
      have hp := pickOk_lE (v :: vs)
      refine ⟨v.map en, vs.map (fun w => w.map en), m.map en, rfl, ?_, ?_, ?_⟩
      · rw [List.map_map]
        exact hp
      · rw [List.map_map]
        exact h1
      · walk_at "e"
        exact ⟨_, _, _, rfl, rfl, m, rfl, h2⟩
  obtain ⟨cs, e, m, rfl, h2⟩ := key
  exact ⟨m, e, h2⟩
theorem x_begun_at_N {w d : D} {p : Int} {ls : List Ln} {es : List (Int × Int)} {k : Nat} (hw : Web w p ls) (h : WbOk p ls) (hd : IsRide d es) (hz : es.length ≤ 4000) (hr : roundB ls es = true) (hk : k < es.length) : m_begun_at_N [w, d, .int (k : Int)] = some ((rot k es).map en) := by
  have key : ∃ cs, m_begun_at_N [w, d, .int (k : Int)] = some cs ∧ cs = (rot k es).map en := by
    unfold m_begun_at_N; refine mN_exW ?_; walk_at "i"; unfold g_begun_at_N
    walk_at "e"
    refine Ed.of (x_need_round hw h hd hz hr) ?_
    walk_at "e"
    refine Ed.of (x_is_whole _) ?_
    rw [show wholeD (.int (k : Int)) = true from by simp [wholeD]]
    walk_at "e"
    show Ed (dLen [.list (es.map en)]) _
    walk_at "e"
    rw [List.length_map]
    refine ⟨fun z => absurd (of_decide_eq_true z) (by omega), fun _ => ?_⟩
    walk_at "e"
    show Ed (dSl (.list (es.map en)) _ _) _
    walk_at "e"
    show Ed (dSl (.list (es.map en)) _ _) _
    walk_at "e"
    rw [cut_from (by omega), cut_to (by omega)]
    refine ed_addL (by simp; omega) ?_
    walk_at "e"
    exact ⟨_, _, _, rfl, rfl, by unfold rot; rw [Int.toNat_natCast, List.map_append, List.map_drop, List.map_take]⟩
  obtain ⟨cs, e, rfl⟩ := key
  exact e
end Ws
end

end Lw

set_option maxHeartbeats 16000000
namespace Lw.k18
open PySem PySem.Spec PyProof.Rows L2 RZ Fu Lw
variable [TabsC]
def topS (i : Nat) : Stmt := PySem.Challenge.pw_changeride_k18_rounds_begun_elsewhere.main.body.getD i (.Pass ⟨0, 0, 0, 0⟩)
abbrev s__law_spring : Stmt := topS 22
theorem sc__law_spring : FnScope ["script", "figures", "stir", "cell"] ["script"] (defScope s__law_spring) := ⟨rfl, rfl, rfl, by decide +kernel, rfl, by decide +kernel, by decide +kernel⟩
abbrev s__law_draw : Stmt := topS 23
theorem sc__law_draw : FnScope ["spring", "many", "found", "stir"] ["spring", "many"] (defScope s__law_draw) := ⟨rfl, rfl, rfl, by decide +kernel, rfl, by decide +kernel, by decide +kernel⟩
abbrev s__law_circle : Stmt := topS 27
theorem sc__law_circle : FnScope ["spring", "many", "places", "first", "spots", "signs", "k", "some", "left", "lines", "ends", "number", "side", "pair", "sign"] ["spring", "many", "places", "first"] (defScope s__law_circle) := ⟨rfl, rfl, rfl, by decide +kernel, rfl, by decide +kernel, by decide +kernel⟩
abbrev s__law_planted : Stmt := topS 28
theorem sc__law_planted : FnScope ["spring", "most", "places", "lines", "ends", "more", "k"] ["spring", "most"] (defScope s__law_planted) := ⟨rfl, rfl, rfl, by decide +kernel, rfl, by decide +kernel, by decide +kernel⟩
abbrev s__law_lists : Stmt := topS 29
theorem sc__law_lists : FnScope ["thing", "inner"] ["thing"] (defScope s__law_lists) := ⟨rfl, rfl, rfl, by decide +kernel, rfl, by decide +kernel, by decide +kernel⟩
abbrev s__law_handed : Stmt := topS 30
theorem sc__law_handed : FnScope ["spring", "thing"] ["spring", "thing"] (defScope s__law_handed) := ⟨rfl, rfl, rfl, by decide +kernel, rfl, by decide +kernel, by decide +kernel⟩
abbrev s_place_of : Stmt := topS 9
theorem sc_place_of : FnScope ["web", "end"] ["web", "end"] (defScope s_place_of) := ⟨rfl, rfl, rfl, by decide +kernel, rfl, by decide +kernel, by decide +kernel⟩
abbrev s_company_of : Stmt := topS 10
theorem sc_company_of : FnScope ["web", "end"] ["web", "end"] (defScope s_company_of) := ⟨rfl, rfl, rfl, by decide +kernel, rfl, by decide +kernel, by decide +kernel⟩
abbrev s_far_end : Stmt := topS 12
theorem sc_far_end : FnScope ["end"] ["end"] (defScope s_far_end) := ⟨rfl, rfl, rfl, by decide +kernel, rfl, by decide +kernel, by decide +kernel⟩
abbrev s_can_go_on : Stmt := topS 13
theorem sc_can_go_on : FnScope ["web", "end", "later"] ["web", "end", "later"] (defScope s_can_go_on) := ⟨rfl, rfl, rfl, by decide +kernel, rfl, by decide +kernel, by decide +kernel⟩
abbrev s_is_row : Stmt := topS 7
theorem sc_is_row : FnScope ["thing", "size"] ["thing", "size"] (defScope s_is_row) := ⟨rfl, rfl, rfl, by decide +kernel, rfl, by decide +kernel, by decide +kernel⟩
abbrev s_is_whole : Stmt := topS 6
theorem sc_is_whole : FnScope ["thing"] ["thing"] (defScope s_is_whole) := ⟨rfl, rfl, rfl, by decide +kernel, rfl, by decide +kernel, by decide +kernel⟩
abbrev s_is_end : Stmt := topS 8
theorem sc_is_end : FnScope ["web", "thing"] ["web", "thing"] (defScope s_is_end) := ⟨rfl, rfl, rfl, by decide +kernel, rfl, by decide +kernel, by decide +kernel⟩
abbrev s_ride_is : Stmt := topS 14
theorem sc_ride_is : FnScope ["web", "ride", "end", "later"] ["web", "ride"] (defScope s_ride_is) := ⟨rfl, rfl, rfl, by decide +kernel, rfl, by decide +kernel, by decide +kernel⟩
abbrev s_round_is : Stmt := topS 15
theorem sc_round_is : FnScope ["web", "ride"] ["web", "ride"] (defScope s_round_is) := ⟨rfl, rfl, rfl, by decide +kernel, rfl, by decide +kernel, by decide +kernel⟩
abbrev s_need_round : Stmt := topS 16
theorem sc_need_round : FnScope ["web", "ride", "end"] ["web", "ride"] (defScope s_need_round) := ⟨rfl, rfl, rfl, by decide +kernel, rfl, by decide +kernel, by decide +kernel⟩
abbrev s_begun_at : Stmt := topS 18
theorem sc_begun_at : FnScope ["web", "ride", "number", "ends"] ["web", "ride", "number"] (defScope s_begun_at) := ⟨rfl, rfl, rfl, by decide +kernel, rfl, by decide +kernel, by decide +kernel⟩
abbrev s_faced_about : Stmt := topS 17
theorem sc_faced_about : FnScope ["ends", "end"] ["ends"] (defScope s_faced_about) := ⟨rfl, rfl, rfl, by decide +kernel, rfl, by decide +kernel, by decide +kernel⟩
abbrev s_all_ways : Stmt := topS 19
theorem sc_all_ways : FnScope ["ends", "found", "one", "at"] ["ends"] (defScope s_all_ways) := ⟨rfl, rfl, rfl, by decide +kernel, rfl, by decide +kernel, by decide +kernel⟩
abbrev s_least_round : Stmt := topS 20
theorem sc_least_round : FnScope ["web", "ride"] ["web", "ride"] (defScope s_least_round) := ⟨rfl, rfl, rfl, by decide +kernel, rfl, by decide +kernel, by decide +kernel⟩
abbrev s__law_other : Stmt := topS 25
theorem sc__law_other : FnScope ["end"] ["end"] (defScope s__law_other) := ⟨rfl, rfl, rfl, by decide +kernel, rfl, by decide +kernel, by decide +kernel⟩
abbrev s_law : Stmt := topS 31
theorem sc_law : FnScope ["script", "spring", "turn", "web", "ends", "handed", "net", "stays", "every", "at", "begun", "back", "found", "again", "end"] ["script"] (defScope s_law) := ⟨rfl, rfl, rfl, by decide +kernel, rfl, by decide +kernel, by decide +kernel⟩
def g_law : Sx → Option Out :=
  (qSeq (qOwn 1 (gCallScr 0 m__law_spring)) (qSeq (qFor (gRng1 (gCons (gBin dAdd (gC (.int 2)) (gCall dMin2 (gCons (gScrLen 0) (gCons (gC (.int 6)) gNil)))) gNil)) (sName 2) (qSeq (qAsg (sTup 2 (sCons (sName 3) (sCons (sName 4) sNil))) (gIO 1 1 m__law_planted (gCons (gC (.int 54)) gNil))) (qSeq (qSet 5 (gIO 1 1 m__law_handed (gCons (gVar 4) gNil))) (qSeq (qSet 6 (gIO 1 1 m__law_handed (gCons (gVar 3) gNil))) (qSeq (qSet 7 (gCall dRepr (gCons (gLst (gCons (gVar 6) (gCons (gVar 5) gNil))) gNil))) (qSeq (qOwn 8 (gLst gNil)) (qSeq (qFor (gRng1 (gCons (gCall dLen (gCons (gVar 4) gNil)) gNil)) (sName 9) (qSeq (qSet 10 (gBin dAdd (gSl (gVar 4) (gSo (gVar 9)) gNo) (gSl (gVar 4) gNo (gSo (gVar 9))))) (qSeq (qDrop (gApp 8 (gVar 10))) (qSeq (qSet 11 (gLc (gItems (gUn dRevL (gVar 10))) (sName 14) gYes (gCallF 1 m__law_other (gCons (gVar 14) gNil)) [14])) (qSeq (qDrop (gApp 8 (gVar 11))) (qSeq (qOwn 12 (gCallN 3 m_begun_at_N (gCons (gVar 6) (gCons (gVar 5) (gCons (gVar 9) gNil))))) (qSeq (qIf (gB (gBin dNe (gView (gCall dRepr (gCons (gVar 12) gNil))) (gCall dRepr (gCons (gVar 10) gNil)))) (qRet (gC (.bool false))) qNx) (qDrop (gClr 12))))))))) (qSeq (qFor (gRng1 (gCons (gC (.int 2)) gNil)) (sName 13) (qSeq (qOwn 12 (gCallN 2 m_least_round_N (gCons (gVar 6) (gCons (gVar 5) gNil)))) (qSeq (qIf (gOr (gB (gBin dNe (gView (gCall dRepr (gCons (gVar 12) gNil))) (gCall dRepr (gCons (gCall (dPick PySem.W.minD) (gCons (gVar 8) gNil)) gNil)))) (gB (gBin dNe (gCall dRepr (gCons (gLst (gCons (gVar 6) (gCons (gVar 5) gNil))) gNil)) (gVar 7)))) (qRet (gC (.bool false))) qNx) (qDrop (gRev 12))))) (qIf (gB (gBin dNe (gCallN 2 m_least_round_N (gCons (gVar 3) (gCons (gBin dIx (gVar 8) (gIO 1 1 m__law_draw_k15 (gCons (gCall dLen (gCons (gVar 8) gNil)) gNil))) gNil))) (gCall (dPick PySem.W.minD) (gCons (gVar 8) gNil)))) (qRet (gC (.bool false))) qNx))))))))) (qRet (gC (.bool true)))))
structure Tx (K : PySem.W.Frag) (mg : Str → Option Value) : Prop where
  z_abs : mg "abs" = none
  z_all : mg "all" = none
  z_bool : mg "bool" = none
  z_int : mg "int" = none
  z_isinstance : mg "isinstance" = none
  z_len : mg "len" = none
  z_list : mg "list" = none
  z_min : mg "min" = none
  z_range : mg "range" = none
  z_repr : mg "repr" = none
  z_set : mg "set" = none
  z_tuple : mg "tuple" = none
  z_zip : mg "zip" = none
  c_SIDES : ∃ t, mg "SIDES" = some (.int 2 t)
  d__law_spring : DefAt K mg "_law_spring" s__law_spring ["script"]
  d__law_draw : DefAt K mg "_law_draw" s__law_draw ["spring", "many"]
  d__law_circle : DefAt K mg "_law_circle" s__law_circle ["spring", "many", "places", "first"]
  d__law_planted : DefAt K mg "_law_planted" s__law_planted ["spring", "most"]
  d__law_lists : DefAt K mg "_law_lists" s__law_lists ["thing"]
  d__law_handed : DefAt K mg "_law_handed" s__law_handed ["spring", "thing"]
  d_place_of : DefAt K mg "place_of" s_place_of ["web", "end"]
  d_company_of : DefAt K mg "company_of" s_company_of ["web", "end"]
  d_far_end : DefAt K mg "far_end" s_far_end ["end"]
  d_can_go_on : DefAt K mg "can_go_on" s_can_go_on ["web", "end", "later"]
  d_is_row : DefAt K mg "is_row" s_is_row ["thing", "size"]
  d_is_whole : DefAt K mg "is_whole" s_is_whole ["thing"]
  d_is_end : DefAt K mg "is_end" s_is_end ["web", "thing"]
  d_ride_is : DefAt K mg "ride_is" s_ride_is ["web", "ride"]
  d_round_is : DefAt K mg "round_is" s_round_is ["web", "ride"]
  d_need_round : DefAt K mg "need_round" s_need_round ["web", "ride"]
  d_begun_at : DefAt K mg "begun_at" s_begun_at ["web", "ride", "number"]
  d_faced_about : DefAt K mg "faced_about" s_faced_about ["ends"]
  d_all_ways : DefAt K mg "all_ways" s_all_ways ["ends"]
  d_least_round : DefAt K mg "least_round" s_least_round ["web", "ride"]
  d__law_other : DefAt K mg "_law_other" s__law_other ["end"]
  d_law : DefAt K mg "law" s_law ["script"]
section
variable {P : Program} {w : World} {K : PySem.W.Frag} {mg : Str → Option Value} {base : Heap}
theorem has__law_spring (T : Tx K mg) : Has P w K mg base "_law_spring" 1 ["script"] (spScrN K m__law_spring) := has_scrN T.d__law_spring sc__law_spring (by rfl) (by decide) fun f cdv A outer s H E hr =>
  (ss_cons (s_set 1 sc__law_spring.nd e_int) (ss_cons (s_set 2 sc__law_spring.nd e_int) (ss_cons (s_for PassesOwn.never (i_any (e_scrSl 0 o_none (o_some e_int))) (g_name 3 sc__law_spring.nd) (ss_cons (s_if (t_ge (e_abs T.z_abs (a_cons (e_var 3) a_nil)) (e_pow e_int e_int)) (ss_one (s_set 1 sc__law_spring.nd (e_add (e_mul (e_var 1) (e_pow e_int e_int)) (e_mod (e_abs T.z_abs (a_cons (e_var 3) a_nil)) (e_pow e_int e_int))))) ss_nil) (ss_one (s_set 2 sc__law_spring.nd (e_mod (e_add (e_add (e_mul (e_var 2) e_int) (e_mod (e_var 3) e_int)) e_int) e_int)))) (fun _ => trivial)) (ss_one (s_retNew (n_lst (a_cons (e_var 1) (a_cons (e_var 2) (a_cons e_int a_nil)))))))))
theorem has__law_draw (T : Tx K mg) : Has P w K mg base "_law_draw" 1 ["spring", "many"] (spIO K 1 m__law_draw_k15) := has_io T.d__law_draw sc__law_draw (by rfl) (by decide) fun f cdv A outer s H E hr =>
  (ss_cons (s_if (t_gt (e_ixO 0 e_int) e_int) (ss_cons (s_set 2 sc__law_draw.nd (e_mod (e_ixO 0 e_int) (e_var 1))) (ss_cons (s_setO 0 e_int (e_div (e_ixO 0 e_int) (e_var 1))) (ss_one (s_ret (e_var 2))))) ss_nil) (ss_cons (s_setO 0 e_int (e_add (e_ixO 0 e_int) e_int)) (ss_cons (s_set 3 sc__law_draw.nd (e_mod (e_mul (e_ixO 0 e_int) (e_ixO 0 e_int)) e_int)) (ss_cons (s_setO 0 e_int (e_mod (e_add (e_add (e_var 3) (e_mul (e_mul e_int (e_ixO 0 e_int)) (e_ixO 0 e_int))) e_int) e_int)) (ss_one (s_ret (e_mod (e_div (e_ixO 0 e_int) e_int) (e_var 1))))))))
theorem has__law_circle (T : Tx K mg) : Has P w K mg base "_law_circle" 2 ["spring", "many", "places", "first"] (spIO K 3 m__law_circle) := has_io T.d__law_circle sc__law_circle (by rfl) (by decide) fun f cdv A outer s H E hr =>
  (ss_cons (s_setLc (lc1 4 [("k", 6)] sc__law_circle.nd (i_range1 T.z_range (a_cons (e_var 1) a_nil)) (blkOk_by (N := ["spring", "many", "places", "first", "spots", "signs", "k", "some", "left", "lines", "ends", "number", "side", "pair", "sign"]) (sc := defScope s__law_circle) (by decide +kernel)) (fun _ _ _ _ _ => (g_name 6 sc__law_circle.nd)) (fun _ _ _ _ _ => ts_nil) (fun _ _ _ _ _ => (e_callHIO 0 (has__law_draw T) (hr.mono (by decide)) (a_cons (e_var 2) a_nil))))) (ss_cons (s_own 5 sc__law_circle.nd (n_lst a_nil)) (ss_cons (s_for0 PassesOwn.never (i0_range1 T.z_range (a_cons (e_var 1) a_nil)) (g_name 6 sc__law_circle.nd) (ss_cons (s_setLc (lc1 7 [("sign", 14)] sc__law_circle.nd (i_any e_str) (blkOk_by (N := ["spring", "many", "places", "first", "spots", "signs", "k", "some", "left", "lines", "ends", "number", "side", "pair", "sign"]) (sc := defScope s__law_circle) (by decide +kernel)) (fun _ _ _ _ _ => (g_name 14 sc__law_circle.nd)) (fun _ _ _ _ _ => (ts_one (t_w (w_or (t_eqO 5 hr.units (e_lst a_nil)) (w_or1 (t_ne hr.units (e_var 14) (e_ixO 5 (e_neg e_int)))))))) (fun _ _ _ _ _ => (e_var 14)))) (ss_cons (s_if (t_eq hr.units (e_var 6) (e_sub (e_var 1) e_int)) (ss_one (s_setLc (lc1 7 [("sign", 14)] sc__law_circle.nd (i_any (e_var 7)) (blkOk_by (N := ["spring", "many", "places", "first", "spots", "signs", "k", "some", "left", "lines", "ends", "number", "side", "pair", "sign"]) (sc := defScope s__law_circle) (by decide +kernel)) (fun _ _ _ _ _ => (g_name 14 sc__law_circle.nd)) (fun _ _ _ _ _ => (ts_one (t_ne hr.units (e_var 14) (e_ixO 5 e_int)))) (fun _ _ _ _ _ => (e_var 14))))) ss_nil) (ss_one (s_expr (e_append 5 (e_ix (e_var 7) (e_callHIO 0 (has__law_draw T) (hr.mono (by decide)) (a_cons (e_len T.z_len (a_cons (e_var 7) a_nil)) a_nil))))))))) (ss_cons (s_own 8 sc__law_circle.nd (n_listRng1 T.z_list T.z_range (e_var 1))) (ss_cons (s_own 9 sc__law_circle.nd (n_rep (e_lst (a_cons e_non a_nil)) (e_var 1))) (ss_cons (s_own 10 sc__law_circle.nd (n_lst a_nil)) (ss_cons (s_for0 PassesOwn.never (i0_range1 T.z_range (a_cons (e_var 1) a_nil)) (g_name 6 sc__law_circle.nd) (ss_cons (s_set 11 sc__law_circle.nd (e_popAt 8 (e_callHIO 0 (has__law_draw T) (hr.mono (by decide)) (a_cons (e_lenO 8 T.z_len) a_nil)))) (ss_cons (s_set 12 sc__law_circle.nd (e_callHIO 0 (has__law_draw T) (hr.mono (by decide)) (a_cons e_int a_nil))) (ss_cons (s_set 13 sc__law_circle.nd (e_lst (a_cons (e_ix (e_var 4) (e_var 6)) (a_cons (e_ix (e_var 4) (e_mod (e_add (e_var 6) e_int) (e_var 1))) a_nil)))) (ss_cons (s_setO 9 (e_var 11) (e_tup (a_cons (e_ix (e_var 13) (e_var 12)) (a_cons (e_ix (e_var 13) (e_sub e_int (e_var 12))) (a_cons (e_ixO 5 (e_var 6)) a_nil))))) (ss_one (s_expr (e_append 10 (e_tup (a_cons (e_add (e_var 3) (e_var 11)) (a_cons (e_var 12) a_nil))))))))))) (ss_one (s_ret (e_tup (a_cons (e_var 9) (a_cons (e_var 10) a_nil))))))))))))
theorem has__law_planted (T : Tx K mg) : Has P w K mg base "_law_planted" 3 ["spring", "most"] (spIO K 1 m__law_planted) := has_io T.d__law_planted sc__law_planted (by rfl) (by decide) fun f cdv A outer s H E hr =>
  (ss_cons (s_set 2 sc__law_planted.nd (e_add e_int (e_callHIO 0 (has__law_draw T) (hr.mono (by decide)) (a_cons (e_ix (e_lst (a_cons e_int (a_cons e_int (a_cons e_int a_nil)))) (e_callHIO 0 (has__law_draw T) (hr.mono (by decide)) (a_cons e_int a_nil))) a_nil)))) (ss_cons (s_asg (g_tup (gs_cons (g_name 3 sc__law_planted.nd) (gs_cons (g_name 4 sc__law_planted.nd) gs_nil))) (e_callHIO 0 (has__law_circle T) (hr.mono (by decide)) (a_cons (e_add e_int (e_callHIO 0 (has__law_draw T) (hr.mono (by decide)) (a_cons (e_sub (e_var 1) e_int) a_nil))) (a_cons (e_var 2) (a_cons e_int a_nil))))) (ss_cons (s_setLc (lc1 5 [("k", 6)] sc__law_planted.nd (i_range1 T.z_range (a_cons (e_callHIO 0 (has__law_draw T) (hr.mono (by decide)) (a_cons e_int a_nil)) a_nil)) (blkOk_by (N := ["spring", "most", "places", "lines", "ends", "more", "k"]) (sc := defScope s__law_planted) (by decide +kernel)) (fun _ _ _ _ _ => (g_name 6 sc__law_planted.nd)) (fun _ _ _ _ _ => ts_nil) (fun _ _ _ _ _ => (e_tup (a_cons (e_callHIO 0 (has__law_draw T) (hr.mono (by decide)) (a_cons (e_var 2) a_nil)) (a_cons (e_callHIO 0 (has__law_draw T) (hr.mono (by decide)) (a_cons (e_var 2) a_nil)) (a_cons (e_ix e_str (e_callHIO 0 (has__law_draw T) (hr.mono (by decide)) (a_cons e_int a_nil))) a_nil))))))) (ss_one (s_ret (e_tup (a_cons (e_tup (a_cons (e_var 2) (a_cons (e_tuple T.z_tuple (a_cons (e_add (e_var 3) (e_var 5)) a_nil)) a_nil))) (a_cons (e_var 4) a_nil))))))))
theorem has__law_lists (T : Tx K mg) : ∀ n, Has P w K mg base "_law_lists" (0 + n) ["thing"] (spF K 1 (m__law_lists n))
  | 0 => has_none_pure T.d__law_lists (by rfl)
  | n + 1 => have ih := has__law_lists T n
    has_pure T.d__law_lists sc__law_lists (by rfl) (by decide) fun f cdv A outer s H E hr =>
  (ss_one (s_ret (e_if (t_val (e_isi2 T.z_isinstance T.z_list (by decide +kernel) kit_list T.z_tuple (by decide +kernel) kit_tuple (e_var 0))) (n_lc [("inner", 1)] sc__law_lists.nd (i_any (e_var 0)) (blkOk_by (N := ["thing", "inner"]) (sc := defScope s__law_lists) (by decide +kernel)) (fun _ _ _ _ _ => (g_name 1 sc__law_lists.nd)) (fun _ _ _ _ _ => ts_nil) (fun _ _ _ _ _ => (e_callH ih hr (a_cons (e_var 1) a_nil)))).e (e_var 0))))
theorem has__law_handed (T : Tx K mg) : Has P w K mg base "_law_handed" 10 ["spring", "thing"] (spIO K 1 m__law_handed) := has_io T.d__law_handed sc__law_handed (by rfl) (by decide) fun f cdv A outer s H E hr =>
  (ss_one (s_ret (e_if (t_gt (e_callHIO 0 (has__law_draw T) (hr.mono (by decide)) (a_cons e_int a_nil)) e_int) (e_var 1) (e_callH (has__law_lists T 8) (hr.mono (by decide)) (a_cons (e_var 1) a_nil)))))
theorem has_place_of (T : Tx K mg) : Has P w K mg base "place_of" 1 ["web", "end"] (spF K 2 m_place_of) := has_pure T.d_place_of sc_place_of (by rfl) (by decide) fun f cdv A outer s H E hr =>
  (ss_one (s_ret (e_ix (e_ix (e_ix (e_var 0) e_int) (e_ix (e_var 1) e_int)) (e_ix (e_var 1) e_int))))
theorem has_company_of (T : Tx K mg) : Has P w K mg base "company_of" 1 ["web", "end"] (spF K 2 m_company_of) := has_pure T.d_company_of sc_company_of (by rfl) (by decide) fun f cdv A outer s H E hr =>
  (ss_one (s_ret (e_ix (e_ix (e_ix (e_var 0) e_int) (e_ix (e_var 1) e_int)) e_int)))
theorem has_far_end (T : Tx K mg) : Has P w K mg base "far_end" 1 ["end"] (spF K 1 m_far_end) := has_pure T.d_far_end sc_far_end (by rfl) (by decide) fun f cdv A outer s H E hr =>
  (ss_one (s_ret (e_tup (a_cons (e_ix (e_var 0) e_int) (a_cons (e_sub e_int (e_ix (e_var 0) e_int)) a_nil)))))
theorem has_can_go_on (T : Tx K mg) : Has P w K mg base "can_go_on" 2 ["web", "end", "later"] (spF K 3 m_can_go_on) := has_pure T.d_can_go_on sc_can_go_on (by rfl) (by decide) fun f cdv A outer s H E hr =>
  (ss_cons (s_if (t_ne hr.units (e_callH (has_place_of T) (hr.mono (by decide)) (a_cons (e_var 0) (a_cons (e_callH (has_far_end T) (hr.mono (by decide)) (a_cons (e_var 1) a_nil)) a_nil))) (e_callH (has_place_of T) (hr.mono (by decide)) (a_cons (e_var 0) (a_cons (e_var 2) a_nil)))) (ss_one (s_ret e_bl)) ss_nil) (ss_one (s_ret (e_ne hr.units (e_callH (has_company_of T) (hr.mono (by decide)) (a_cons (e_var 0) (a_cons (e_var 1) a_nil))) (e_callH (has_company_of T) (hr.mono (by decide)) (a_cons (e_var 0) (a_cons (e_var 2) a_nil)))))))
theorem has_is_row (T : Tx K mg) : Has P w K mg base "is_row" 1 ["thing", "size"] (spF K 2 m_is_row) := has_pure T.d_is_row sc_is_row (by rfl) (by decide) fun f cdv A outer s H E hr =>
  (ss_one (s_ret (e_and (e_isi2 T.z_isinstance T.z_list (by decide +kernel) kit_list T.z_tuple (by decide +kernel) kit_tuple (e_var 0)) (e_one (e_eq hr.units (e_len T.z_len (a_cons (e_var 0) a_nil)) (e_var 1))))))
theorem has_is_whole (T : Tx K mg) : Has P w K mg base "is_whole" 1 ["thing"] (spF K 1 m_is_whole) := has_pure T.d_is_whole sc_is_whole (by rfl) (by decide) fun f cdv A outer s H E hr =>
  (ss_one (s_ret (e_and (e_isi T.z_isinstance T.z_int (by decide +kernel) kit_int (e_var 0)) (e_and (e_not (e_isi T.z_isinstance T.z_bool (by decide +kernel) kit_bool (e_var 0))) (e_one (e_ge (e_var 0) e_int))))))
theorem has_is_end (T : Tx K mg) : Has P w K mg base "is_end" 2 ["web", "thing"] (spF K 2 m_is_end) := has_pure T.d_is_end sc_is_end (by rfl) (by decide) fun f cdv A outer s H E hr =>
  (ss_cons (s_if (t_w (w_or (t_not (t_val (e_callH (has_is_row T) (hr.mono (by decide)) (a_cons (e_var 1) (a_cons e_int a_nil))))) (w_or (t_not (t_val (e_callH (has_is_whole T) (hr.mono (by decide)) (a_cons (e_ix (e_var 1) e_int) a_nil)))) (w_or1 (t_not (t_val (e_callH (has_is_whole T) (hr.mono (by decide)) (a_cons (e_ix (e_var 1) e_int) a_nil)))))))) (ss_one (s_ret e_bl)) ss_nil) (ss_one (s_ret (e_and (e_lt (e_ix (e_var 1) e_int) (e_len T.z_len (a_cons (e_ix (e_var 0) e_int) a_nil))) (e_one (e_lt (e_ix (e_var 1) e_int) (e_gintE T.c_SIDES)))))))
theorem has_ride_is (T : Tx K mg) : Has P w K mg base "ride_is" 3 ["web", "ride"] (spF K 2 m_ride_is) := has_pure T.d_ride_is sc_ride_is (by rfl) (by decide) fun f cdv A outer s H E hr =>
  (ss_cons (s_if (t_w (w_or (t_not (t_val (e_isi2 T.z_isinstance T.z_list (by decide +kernel) kit_list T.z_tuple (by decide +kernel) kit_tuple (e_var 1)))) (w_or (t_eq hr.units (e_len T.z_len (a_cons (e_var 1) a_nil)) e_int) (w_or1 (t_not (t_val (e_all T.z_all (a_cons (n_lc [("end", 2)] sc_ride_is.nd (i_any (e_var 1)) (blkOk_by (N := ["web", "ride", "end", "later"]) (sc := defScope s_ride_is) (by decide +kernel)) (fun _ _ _ _ _ => (g_name 2 sc_ride_is.nd)) (fun _ _ _ _ _ => ts_nil) (fun _ _ _ _ _ => (e_callH (has_is_end T) (hr.mono (by decide)) (a_cons (e_var 0) (a_cons (e_var 2) a_nil))))).e a_nil)))))))) (ss_one (s_ret e_bl)) ss_nil) (ss_cons (s_if (t_ne hr.units (e_lenSet T.z_len T.z_set (n_lc [("end", 2)] sc_ride_is.nd (i_any (e_var 1)) (blkOk_by (N := ["web", "ride", "end", "later"]) (sc := defScope s_ride_is) (by decide +kernel)) (fun _ _ _ _ _ => (g_name 2 sc_ride_is.nd)) (fun _ _ _ _ _ => ts_nil) (fun _ _ _ _ _ => (e_ix (e_var 2) e_int))).e) (e_len T.z_len (a_cons (e_var 1) a_nil))) (ss_one (s_ret e_bl)) ss_nil) (ss_one (s_ret (e_all T.z_all (a_cons (n_lc [("end", 2), ("later", 3)] sc_ride_is.nd (i_zip T.z_zip (a_cons (e_var 1) (a_cons (e_sl (e_var 1) (o_some e_int) o_none) a_nil))) (blkOk_by (N := ["web", "ride", "end", "later"]) (sc := defScope s_ride_is) (by decide +kernel)) (fun _ _ _ _ _ => (g_tup (gs_cons (g_name 2 sc_ride_is.nd) (gs_cons (g_name 3 sc_ride_is.nd) gs_nil)))) (fun _ _ _ _ _ => ts_nil) (fun _ _ _ _ _ => (e_callH (has_can_go_on T) (hr.mono (by decide)) (a_cons (e_var 0) (a_cons (e_var 2) (a_cons (e_var 3) a_nil)))))).e a_nil))))))
theorem has_round_is (T : Tx K mg) : Has P w K mg base "round_is" 4 ["web", "ride"] (spF K 2 m_round_is) := has_pure T.d_round_is sc_round_is (by rfl) (by decide) fun f cdv A outer s H E hr =>
  (ss_one (s_ret (e_and (e_callH (has_ride_is T) (hr.mono (by decide)) (a_cons (e_var 0) (a_cons (e_var 1) a_nil))) (e_one (e_callH (has_can_go_on T) (hr.mono (by decide)) (a_cons (e_var 0) (a_cons (e_ix (e_var 1) (e_neg e_int)) (a_cons (e_ix (e_var 1) e_int) a_nil))))))))
theorem has_need_round (T : Tx K mg) : Has P w K mg base "need_round" 5 ["web", "ride"] (spF K 2 m_need_round) := has_pure T.d_need_round sc_need_round (by rfl) (by decide) fun f cdv A outer s H E hr =>
  (ss_cons (s_if (t_not (t_val (e_callH (has_round_is T) (hr.mono (by decide)) (a_cons (e_var 0) (a_cons (e_var 1) a_nil))))) (ss_one s_never) ss_nil) (ss_one (s_ret (n_lc [("end", 2)] sc_need_round.nd (i_any (e_var 1)) (blkOk_by (N := ["web", "ride", "end"]) (sc := defScope s_need_round) (by decide +kernel)) (fun _ _ _ _ _ => (g_name 2 sc_need_round.nd)) (fun _ _ _ _ _ => ts_nil) (fun _ _ _ _ _ => (e_tuple T.z_tuple (a_cons (e_var 2) a_nil)))).e)))
theorem has_begun_at (T : Tx K mg) : Has P w K mg base "begun_at" 6 ["web", "ride", "number"] (spN K 3 m_begun_at_N) := has_new T.d_begun_at sc_begun_at (by rfl) (by decide) fun f cdv A outer s H E hr =>
  (ss_cons (s_set 3 sc_begun_at.nd (e_callH (has_need_round T) (hr.mono (by decide)) (a_cons (e_var 0) (a_cons (e_var 1) a_nil)))) (ss_cons (s_if (t_w (w_or (t_not (t_val (e_callH (has_is_whole T) (hr.mono (by decide)) (a_cons (e_var 2) a_nil)))) (w_or1 (t_ge (e_var 2) (e_len T.z_len (a_cons (e_var 3) a_nil)))))) (ss_one s_never) ss_nil) (ss_one (s_retNew (n_cat (e_sl (e_var 3) (o_some (e_var 2)) o_none) (e_sl (e_var 3) o_none (o_some (e_var 2))))))))
theorem has_faced_about (T : Tx K mg) : Has P w K mg base "faced_about" 2 ["ends"] (spF K 1 m_faced_about) := has_pure T.d_faced_about sc_faced_about (by rfl) (by decide) fun f cdv A outer s H E hr =>
  (ss_one (s_ret (n_lc [("end", 1)] sc_faced_about.nd (i_any (n_revL (e_var 0)).e) (blkOk_by (N := ["ends", "end"]) (sc := defScope s_faced_about) (by decide +kernel)) (fun _ _ _ _ _ => (g_name 1 sc_faced_about.nd)) (fun _ _ _ _ _ => ts_nil) (fun _ _ _ _ _ => (e_callH (has_far_end T) (hr.mono (by decide)) (a_cons (e_var 1) a_nil)))).e))
theorem has_all_ways (T : Tx K mg) : Has P w K mg base "all_ways" 3 ["ends"] (spLL K 1 m_all_ways_LL) := has_LL T.d_all_ways sc_all_ways (by rfl) (by decide) fun f cdv A outer s H E hr =>
  (ss_cons (s_setR 1 sc_all_ways.nd r_nil) (ss_cons (s_for PassesOwn.never (i_any (e_tup (a_cons (e_var 0) (a_cons (e_callH (has_faced_about T) (hr.mono (by decide)) (a_cons (e_var 0) a_nil)) a_nil)))) (g_name 2 sc_all_ways.nd) (ss_one (s_expr (e_extLR 1 (r_lcR [("at", 3)] sc_all_ways.nd (i_range1 T.z_range (a_cons (e_len T.z_len (a_cons (e_var 2) a_nil)) a_nil)) (blkOk_by (N := ["ends", "found", "one", "at"]) (sc := defScope s_all_ways) (by decide +kernel)) (fun _ _ _ _ _ => (g_name 3 sc_all_ways.nd)) (fun _ _ _ _ _ => ts_nil) (fun _ _ _ _ _ => (r_new (n_cat (e_sl (e_var 2) (o_some (e_var 3)) o_none) (e_sl (e_var 2) o_none (o_some (e_var 3)))))))))) (fun _ => trivial)) (ss_one (s_retLR 1))))
theorem has_least_round (T : Tx K mg) : Has P w K mg base "least_round" 6 ["web", "ride"] (spN K 2 m_least_round_N) := has_new T.d_least_round sc_least_round (by rfl) (by decide) fun f cdv A outer s H E hr =>
  (ss_one (s_retNew (n_minLL (has_all_ways T) (hr.mono (by decide)) T.z_min (a_cons (e_callH (has_need_round T) (hr.mono (by decide)) (a_cons (e_var 0) (a_cons (e_var 1) a_nil))) a_nil))))
theorem has__law_other (T : Tx K mg) : Has P w K mg base "_law_other" 1 ["end"] (spF K 1 m__law_other) := has_pure T.d__law_other sc__law_other (by rfl) (by decide) fun f cdv A outer s H E hr =>
  (ss_one (s_ret (e_tup (a_cons (e_ix (e_var 0) e_int) (a_cons (e_sub e_int (e_ix (e_var 0) e_int)) a_nil)))))
theorem law_body (T : Tx K mg) : BodyG P w K mg base ["script", "spring", "turn", "web", "ends", "handed", "net", "stays", "every", "at", "begun", "back", "found", "again", "end"] "law" s_law 10 AnyB g_law := fun f cdv A outer s H E hr hgd =>
  (ss_cons (s_own 1 sc_law.nd (n_callScr 0 (has__law_spring T) (hr.mono (by decide)))) (ss_cons (s_for0 PassesOwn.never (i0_range1 T.z_range (a_cons (e_add e_int (e_min2 T.z_min (a_cons (e_scrLen 0 T.z_len) (a_cons e_int a_nil)))) a_nil)) (g_name 2 sc_law.nd) (ss_cons (s_asg (g_tup (gs_cons (g_name 3 sc_law.nd) (gs_cons (g_name 4 sc_law.nd) gs_nil))) (e_callHIO 1 (has__law_planted T) (hr.mono (by decide)) (a_cons e_int a_nil))) (ss_cons (s_set 5 sc_law.nd (e_callHIO 1 (has__law_handed T) (hr.mono (by decide)) (a_cons (e_var 4) a_nil))) (ss_cons (s_set 6 sc_law.nd (e_callHIO 1 (has__law_handed T) (hr.mono (by decide)) (a_cons (e_var 3) a_nil))) (ss_cons (s_set 7 sc_law.nd (e_repr hr hgd T.z_repr (a_cons (e_lst (a_cons (e_var 6) (a_cons (e_var 5) a_nil))) a_nil))) (ss_cons (s_own 8 sc_law.nd (n_lst a_nil)) (ss_cons (s_for0 PassesOwn.never (i0_range1 T.z_range (a_cons (e_len T.z_len (a_cons (e_var 4) a_nil)) a_nil)) (g_name 9 sc_law.nd) (ss_cons (s_set 10 sc_law.nd (e_add (e_sl (e_var 4) (o_some (e_var 9)) o_none) (e_sl (e_var 4) o_none (o_some (e_var 9))))) (ss_cons (s_expr (e_append 8 (e_var 10))) (ss_cons (s_setLc (lc1 11 [("end", 14)] sc_law.nd (i_any (n_revL (e_var 10)).e) (blkOk_by (N := ["script", "spring", "turn", "web", "ends", "handed", "net", "stays", "every", "at", "begun", "back", "found", "again", "end"]) (sc := defScope s_law) (by decide +kernel)) (fun _ _ _ _ _ => (g_name 14 sc_law.nd)) (fun _ _ _ _ _ => ts_nil) (fun _ _ _ _ _ => (e_callH (has__law_other T) (hr.mono (by decide)) (a_cons (e_var 14) a_nil))))) (ss_cons (s_expr (e_append 8 (e_var 11))) (ss_cons (s_own 12 sc_law.nd (n_callH (has_begun_at T) (hr.mono (by decide)) (a_cons (e_var 6) (a_cons (e_var 5) (a_cons (e_var 9) a_nil))))) (ss_cons (s_if (t_ne hr.units (e_view (e_repr hr hgd T.z_repr (a_cons (e_var 12) a_nil))) (e_repr hr hgd T.z_repr (a_cons (e_var 10) a_nil))) (ss_one (s_ret e_bl)) ss_nil) (ss_one (s_expr (e_clear 12)))))))))) (ss_cons (s_for0 PassesOwn.never (i0_range1 T.z_range (a_cons e_int a_nil)) (g_name 13 sc_law.nd) (ss_cons (s_own 12 sc_law.nd (n_callH (has_least_round T) (hr.mono (by decide)) (a_cons (e_var 6) (a_cons (e_var 5) a_nil)))) (ss_cons (s_if (t_w (w_or (t_ne hr.units (e_view (e_repr hr hgd T.z_repr (a_cons (e_var 12) a_nil))) (e_repr hr hgd T.z_repr (a_cons (e_min hr T.z_min (a_cons (e_var 8) a_nil)) a_nil))) (w_or1 (t_ne hr.units (e_repr hr hgd T.z_repr (a_cons (e_lst (a_cons (e_var 6) (a_cons (e_var 5) a_nil))) a_nil)) (e_var 7))))) (ss_one (s_ret e_bl)) ss_nil) (ss_one (s_expr (e_reverse 12)))))) (ss_one (s_if (t_ne hr.units (n_callH (has_least_round T) (hr.mono (by decide)) (a_cons (e_var 3) (a_cons (e_ix (e_var 8) (e_callHIO 1 (has__law_draw T) (hr.mono (by decide)) (a_cons (e_len T.z_len (a_cons (e_var 8) a_nil)) a_nil))) a_nil))).e (e_min hr T.z_min (a_cons (e_var 8) a_nil))) (ss_one (s_ret e_bl)) ss_nil)))))))))) (ss_one (s_ret e_bl))))
end
end Lw.k18

set_option maxHeartbeats 4000000
namespace Lw.k18
open PySem Fu Lw
local macro_rules | `(tactic| walk_at "e1") => `(tactic| first
  | with_reducible refine eo_seq ?_ | (with_reducible refine then_nx' ?_; refine ⟨?_, ?_, ?_⟩; rotate_left; · (try dsimp only [List.set, List.length_cons, List.length_nil, List.cons_append, List.nil_append, Nat.zero_add, Nat.reduceAdd]); exact rfl) | with_reducible refine then_rt ?_ | with_reducible refine eo_if ?_ | with_reducible refine eo_ret ?_ | with_reducible refine eo_set ?_ | with_reducible refine eo_asg ?_ | with_reducible refine eo_drop ?_ | with_reducible refine eo_nx ?_ | with_reducible refine eo_par ?_ | with_reducible refine eo_own ?_ | with_reducible refine eo_retN ?_ | with_reducible refine eo_for ?_ | with_reducible refine eo_retO ?_
  | with_reducible refine ev_c ?_ | (with_reducible refine ev_var ?_; refine ⟨_, rfl, ?_⟩) | with_reducible refine ev_bin ?_ | with_reducible refine ev_un ?_ | with_reducible refine ev_nil ?_ | with_reducible refine ev_cons ?_
  | with_reducible refine ev_tup ?_ | with_reducible refine ev_lst ?_ | with_reducible refine ev_call ?_ | with_reducible refine ev_callF ?_ | with_reducible refine ev_isi ?_ | with_reducible refine ev_isi2 ?_ | with_reducible refine ev_andV ?_ | with_reducible refine ev_orV ?_ | with_reducible refine ev_notV ?_
  | with_reducible refine ev_B ?_ | with_reducible refine ev_and ?_ | with_reducible refine ev_or ?_ | with_reducible refine ev_not ?_ | with_reducible refine ev_yes ?_ | with_reducible refine ev_if ?_ | with_reducible refine ev_no ?_ | with_reducible refine ev_so ?_ | with_reducible refine ev_sl ?_ | with_reducible refine ev_items ?_
  | (with_reducible refine ev_ixO ?_; refine ⟨_, _, rfl, rfl, ?_⟩) | (with_reducible refine ev_varO ?_; refine ⟨_, _, rfl, rfl, ?_⟩) | (with_reducible refine ev_lenO ?_; refine ⟨_, _, rfl, rfl, ?_⟩) | (with_reducible refine ev_scrSl ?_; refine ⟨_, rfl, ?_⟩) | (with_reducible refine ev_scrLen ?_; refine ⟨_, rfl, ?_⟩) | (with_reducible refine ev_callScr ?_; refine ⟨_, rfl, ?_⟩) | (with_reducible refine ev_OL ?_; refine ⟨_, _, rfl, rfl, ?_⟩) | with_reducible refine ev_OR ?_ | with_reducible refine ev_rep ?_ | with_reducible refine ev_listRng1 ?_ | with_reducible refine eo_setO ?_
  | with_reducible refine es_name ?_ | with_reducible refine es_tup2 ?_ | with_reducible refine es_tup3 ?_
  | with_reducible refine ed_addI ?_ | with_reducible refine ed_subI ?_ | with_reducible refine ed_cmp ?_ | with_reducible refine ed_eqI ?_ | with_reducible refine ed_neI ?_ | with_reducible refine ed_slT ?_ | with_reducible refine ed_slL ?_ | with_reducible refine ed_lenT ?_ | with_reducible refine ed_lenL ?_ | with_reducible refine ed_lenS ?_ | with_reducible refine ed_inS ?_ | with_reducible refine ed_itT ?_ | with_reducible refine ed_itL ?_ | with_reducible refine ed_tupL ?_ | with_reducible refine ed_tupT ?_ | with_reducible refine ed_listL ?_ | with_reducible refine ed_listT ?_ | with_reducible refine ed_neg ?_ | with_reducible refine ed_max ?_ | with_reducible refine ed_min ?_ | with_reducible refine ed_intB ?_
  | with_reducible refine ev_rng1 ?_ | with_reducible refine ev_rng2 ?_)
local macro_rules | `(tactic| walk_at "sd") => `(tactic| first | rfl | assumption | (simp only [decide_eq_true_eq, decide_eq_false_iff_not, Bool.not_eq_true', Bool.not_eq_false', Bool.and_eq_true, Bool.or_eq_true, List.length_map, List.length_cons, List.length_nil, List.length_append, List.length_range] at *; omega))
local macro_rules | `(tactic| walk_at "e2") => `(tactic| first
  | walk_at "e1" | with_reducible refine ⟨_, rfl, ?_⟩ | with_reducible refine ⟨_, _, rfl, ?_⟩
  | with_reducible refine And.intro (Eq.refl (List.length _)) ?_ | with_reducible refine And.intro (Nat.le_of_ble_eq_true (n := List.length _) rfl) ?_
  | with_reducible refine And.intro (Eq.refl (_ : Sx)) (?_ : Ed _ _)
  | ((with_reducible refine And.intro ?_ (And.intro ?_ (?_ : Ev _ _))); (· rfl); (· rfl))
  | ((with_reducible refine ed_ixTx ?_); refine ⟨_, by decide, rfl, ?_⟩) | ((with_reducible refine ed_ixLx ?_); refine ⟨_, by decide, rfl, ?_⟩) | ((with_reducible refine es_star ?_))
  | with_reducible refine an_tt ?_ | with_reducible refine an_ft ?_ | with_reducible refine an_tf ?_ | with_reducible refine an_ff ?_ | with_reducible refine an_ntt ?_ | with_reducible refine an_nft ?_ | with_reducible refine an_ntf ?_ | with_reducible refine an_nff ?_
  | ((with_reducible refine ed_dneSelf ?_)) | ((with_reducible refine ed_deqSelf ?_))
  | ((with_reducible refine ed_ixT ?_ ?_ ?_); (· decide); (· rfl)) | ((with_reducible refine ed_ixL ?_ ?_ ?_); (· decide); (· rfl)) | ((with_reducible refine ed_at ?_ ?_ ?_); (· decide); (· rfl))
  | ((with_reducible refine ed_modI ?_ ?_); (· first | decide | omega))
  | with_reducible exact gives_nx | ((with_reducible refine gives_rt ?_); (· rfl)) | ((with_reducible refine And.intro ?_ ?_); (· exact rfl); (· with_reducible exact Eq.refl (_ : Sx))))
local macro_rules | `(tactic| walk_at "e") => `(tactic| repeat walk_at "e2")
/-- begin a def's spec -/
local macro_rules | `(tactic| walk_at "i") => `(tactic| simp only [initS, List.map_cons, List.map_nil, List.length_cons, List.length_nil, Nat.reduceAdd, Nat.reduceSub, List.replicate, List.cons_append, List.nil_append])
/-- a known truth decides -/
local macro_rules | `(tactic| walk_at "t") => `(tactic| first | ((with_reducible refine split_t ?_ ?_); (· walk_at "sd")) | ((with_reducible refine split_t' ?_ ?_); (· walk_at "sd")))
local macro_rules | `(tactic| walk_at "f") => `(tactic| first | ((with_reducible refine split_f ?_ ?_); (· walk_at "sd")) | ((with_reducible refine split_f' ?_ ?_); (· walk_at "sd")))
/-- all that is seen in a look -/
local macro_rules | `(tactic| walk_at "v") => `(tactic| (rw [sealAll_mk (by (simp only [List.set_cons_zero, List.set_cons_succ, List.map_cons, List.map_nil, sealS_none, sealS_dat, sealS_scr, sealS_own, List.getElem?_cons_zero, List.getElem?_cons_succ, sealC_lst]; rfl)) (by (simp only [List.set_cons_zero, List.set_cons_succ, List.map_cons, List.map_nil]; rfl))]))
open Lw.Sp Lw.Ws
theorem set_0 {α : Type} {os : List α} {a v : α} {k : Nat} (h : os[k]? = some a) : (os.set k v)[k]? = some v := by
  rw [List.getElem?_set_self (List.getElem?_eq_some_iff.mp h).1]
theorem set_k {α : Type} {os : List α} {j k : Nat} {a v : α} (hk : os[k]? = some a) (k0 : j ≠ k) : (os.set j v)[k]? = some a := by
  rw [List.getElem?_set_ne k0]; exact hk
theorem app_k {α : Type} {os : List α} {k : Nat} {a v : α} (hk : os[k]? = some a) : (os ++ [v])[k]? = some a := by
  rw [List.getElem?_append_left (List.getElem?_eq_some_iff.mp hk).1]; exact hk
theorem app_end {α : Type} {os : List α} {v : α} : (os ++ [v])[os.length]? = some v := by simp
theorem at_lt {α : Type} {os : List α} {k : Nat} {a : α} (h : os[k]? = some a) : k < os.length := (List.getElem?_eq_some_iff.mp h).1
theorem seal_at {S : Sx} {i j : Nat} {ds : List D} (h1 : S.sl[i]? = some (some (.own j))) (h2 : S.os[j]? = some (some (.lst ds))) : (sealAll S).sl[i]? = some (some (.dat (.list ds))) := by
  unfold sealAll
  simp only [List.getElem?_map, h1, Option.map_some]
  unfold sealS snapR
  simp only [h2]
  rfl
theorem ev_viewRepr {S : Sx} {i j : Nat} {ds : List D} {Q : D → Sx → Prop} (h1 : S.sl[i]? = some (some (.own j))) (h2 : S.os[j]? = some (some (.lst ds))) (h : Ed (dRepr [.list ds]) fun z => hardD z = true ∧ Q z S) : Ev (gView (gCall dRepr (gCons (gVar i) gNil)) S) Q := by
  obtain ⟨z, e, hz, q⟩ := h
  refine ev_view ⟨z, sealAll S, ?_, hz, q⟩
  simp only [gCall, gCons, gNil, gVar, seal_at h1 h2, Option.bind_some, e]
def evs (es : List (Int × Int)) (j : Nat) : List (List (Int × Int)) := (List.range j).flatMap fun k => [rot k es, rv (rot k es)]
theorem evs_step (es : List (Int × Int)) (j : Nat) : evs es (j + 1) = (evs es j ++ [rot j es]) ++ [rv (rot j es)] := by
  unfold evs
  rw [List.range_succ, List.flatMap_append]
  simp
theorem evs_len (es : List (Int × Int)) (j : Nat) : (evs es j).length = 2 * j := by
  induction j with
  | zero => rfl
  | succ j ih => rw [evs_step, List.length_append, List.length_append, ih]; simp; omega
theorem evs_mem {es w : List (Int × Int)} (h0 : 0 < es.length) : w ∈ evs es es.length ↔ w ∈ ways es := by
  have self : ∀ x : List (Int × Int), 0 < x.length → x ∈ ways x := fun x hx => mem_ways.mpr ⟨0, hx, .inl (by rw [rot_zero])⟩
  unfold evs
  rw [List.mem_flatMap]
  constructor
  · rintro ⟨k, hk, hw⟩
    rw [List.mem_range] at hk
    simp only [List.mem_cons, List.not_mem_nil, or_false] at hw
    rcases hw with rfl | rfl
    · exact mem_ways.mpr ⟨k, hk, .inl rfl⟩
    · have h1 := self (rv (rot k es)) (by rw [rv_len, rot_len]; exact h0)
      rw [ways_rv, ways_rot hk] at h1
      exact h1
  · intro hw
    obtain ⟨k, hk, rfl | rfl⟩ := mem_ways.mp hw
    · exact ⟨k, List.mem_range.mpr hk, by simp⟩
    · by_cases k0 : k = 0
      · subst k0
        refine ⟨0, List.mem_range.mpr hk, ?_⟩
        rw [rot_zero, rot_zero]
        simp
      · refine ⟨es.length - k, List.mem_range.mpr (by omega), ?_⟩
        rw [rv_rot (by omega), show es.length - (es.length - k) = k by omega]
        simp
theorem ways_len {es w : List (Int × Int)} (h : w ∈ ways es) : w.length = es.length := by
  obtain ⟨k, hk, rfl | rfl⟩ := mem_ways.mp h
  · exact rot_len k es
  · rw [rot_len, rv_len]
theorem ways_eq {es w v : List (Int × Int)} (h : w ∈ ways es) : v ∈ ways w ↔ v ∈ ways es := by
  obtain ⟨k, hk, rfl | rfl⟩ := mem_ways.mp h
  · exact ways_rot hk
  · rw [ways_rot (by rw [rv_len]; exact hk), ways_rv]
theorem ev_revO {S : Sx} {i : Nat} {Q : D → Sx → Prop} (h : ∃ j cs, S.sl[i]? = some (some (.own j)) ∧ S.os[j]? = some (some (.lst cs)) ∧ Q .none ⟨S.sl, S.os.set j (some (.lst cs.reverse))⟩) : Ev (gRev i S) Q := by
  obtain ⟨j, cs, h1, h2, q⟩ := h
  exact ⟨_, _, by simp only [gRev, ownOf, h1, h2, Fu.cellOf, Option.bind_some, setCell], q⟩
theorem law_true : ∀ ns : List Int, ns.length ≤ 63 → mScr 15 g_law ns = some (.bool true) := by
  intro ns hns
  refine mScr_of ?_; walk_at "i"; unfold g_law
  walk_at "e"
  obtain ⟨cs, e, hR⟩ := x_spring hns
  refine Ed.of e ?_
  walk_at "e"
  refine ⟨by omega, by omega, ?_⟩
  refine eo_loop (fun i S => ∃ x2 x3 x4 x5 x6 x7 x8 x9 x10 x11 x12 x13 x14 cs os, S = ⟨[some (.scr ns), some (.own 0), x2, x3, x4, x5, x6, x7, x8, x9, x10, x11, x12, x13, x14], os⟩ ∧ os[0]? = some (some (.lst cs)) ∧ Reel (4294967296 - 1000 * i) cs) ⟨_, _, _, _, _, _, _, _, _, _, _, _, _, _, _, rfl, rfl, hR⟩ ?_ ?_
  · rintro i z S hz ⟨x2, x3, x4, x5, x6, x7, x8, x9, x10, x11, x12, x13, x14, cs, os, rfl, h0, hR⟩
    obtain ⟨hi, rfl⟩ := rng_at hz
    have hi : i < 8 := by omega
    walk_at "e"
    refine ev_IO ⟨_, rfl, ?_⟩
    walk_at "e"
    have hR : Reel ((4294967296 - 1000 * i - 300) + 4 * 54 + 30) cs := hR.mono (by omega)
    obtain ⟨d, cs', e, p, ls, es, rfl, hw, p0, p1, hr, l0, l1, l2, hR⟩ := x_planted (most := 54) (by decide) (by decide) hR
    refine ⟨_, h0, rfl, _, _, e, ?_⟩
    have h0 := set_0 (v := some (Cell.lst cs')) h0
    generalize os.set 0 _ = os at h0
    walk_at "e"
    have hall : ∀ e ∈ es, EndOk ls.length e := (rideB_iff.mp (roundB_iff.mp hr).1).2.1
    have hne : es ≠ [] := fun z => by rw [z] at l0; simp at l0
    have W := web_wb p ls
    have sW := shw_web W hw (by omega)
    have rE : IsRide (PyData.list (es.map en)) es := ride_lE es
    have sE : Shw 2 (es.length * 83) (.list (es.map en)) := shw_ride rE fun e he => by
      obtain ⟨h1, h2, h3, h4⟩ := hall e he
      exact ⟨by omega, by omega⟩
    refine ev_IO ⟨_, rfl, ?_⟩
    walk_at "e"
    obtain ⟨hd, cs, e2, hhd, hR⟩ := x__law_handed hR (by omega) (show (PyData.list (es.map en)).depth < 8 by have := sE.dep; omega)
    refine ⟨_, h0, rfl, _, _, e2, ?_⟩
    have h0 := set_0 (v := some (Cell.lst cs)) h0
    generalize os.set 0 _ = os at h0
    walk_at "e"
    refine ev_IO ⟨_, rfl, ?_⟩
    walk_at "e"
    obtain ⟨nt, cs, e3, hnt, hR⟩ := x__law_handed hR (by omega) (show (wb p ls).depth < 8 by have := sW.dep; omega)
    refine ⟨_, h0, rfl, _, _, e3, ?_⟩
    have h0 := set_0 (v := some (Cell.lst cs)) h0
    generalize os.set 0 _ = os at h0
    have hride : IsRide hd es := by
      rcases hhd with rfl | rfl
      · exact rE
      · exact ride_lists rE
    have hweb : Web nt p ls := by
      rcases hnt with rfl | rfl
      · exact W
      · exact web_lists W
    have s1 : Shw 2 (es.length * 83) hd := shw_ride hride fun e he => by
      obtain ⟨h1, h2, h3, h4⟩ := hall e he
      exact ⟨by omega, by omega⟩
    have s2 := shw_web hweb hw (by omega)
    have s3 : Shw 4 (2 * (20000 + 1)) (.list [nt, hd]) := shw_two (s2.mono (by omega) (by omega)) (s1.mono (by omega) (by omega))
    clear hhd hnt e2 e3 e s1 s2 sW
    walk_at "e"
    refine ed_repr (sq_l _) s3 ?_
    walk_at "e"
    have k1 := at_lt h0
    have hk := app_end (os := os) (v := some (Cell.lst []))
    have h0 := app_k (v := some (Cell.lst [])) h0
    generalize os.length = k at hk k1
    generalize os ++ [some (Cell.lst [])] = os at h0 hk
    walk_at "e"
    rw [List.length_map]
    refine ⟨by omega, by omega, ?_⟩
    have hbg : ∀ j < es.length, (rot j es).length = es.length := fun j _ => rot_len j es
    refine eo_loop (fun j S => ∃ x9 x10 x11 x12 x13 x14 os, S = ⟨[some (.scr ns), some (.own 0), some (.dat (.int (0 + (i : Int)))), some (.dat (wb p ls)), some (.dat (.list (es.map en))), some (.dat hd), some (.dat nt), some (.dat (.str (PyData.shown (.list [nt, hd])))), some (.own k), x9, x10, x11, x12, x13, x14], os⟩ ∧ os[0]? = some (some (.lst cs)) ∧ os[k]? = some (some (.lst ((evs es j).map lE)))) ⟨_, _, _, _, _, _, _, rfl, h0, hk⟩ ?_ ?_
    · rintro j z S hz ⟨x9, x10, x11, x12, x13, x14, os, rfl, h0, hk⟩
      obtain ⟨hj, rfl⟩ := rng_at hz
      rw [Int.toNat_natCast] at hj
      rw [show (0 : Int) + (j : Int) = (j : Int) by omega]
      walk_at "e"
      rw [cut_from (by omega), cut_to (by omega)]
      refine ed_addL (by simp; omega) ?_
      rw [Int.toNat_natCast, show (es.map en).drop j ++ (es.map en).take j = (rot j es).map en from by unfold rot; rw [List.map_append, List.map_drop, List.map_take]]
      walk_at "e"
      have sR : Shw 2 (es.length * 83) (.list ((rot j es).map en)) := by
        have := shw_ride (ride_lE (rot j es)) fun e he => by
          obtain ⟨h1, h2, h3, h4⟩ := hall e ((by unfold rot at he; rcases List.mem_append.mp he with z | z; exact List.mem_of_mem_drop z; exact List.mem_of_mem_take z))
          exact ⟨by omega, by omega⟩
        rwa [hbg j hj] at this
      refine ev_app ⟨_, _, rfl, hk, ?_⟩
      walk_at "e"
      refine ⟨_, hk, by rw [List.length_map, evs_len]; omega, ?_⟩
      have h0 := set_k (v := some (Cell.lst ((evs es j).map lE ++ [.list ((rot j es).map en)]))) h0 (show k ≠ 0 by omega)
      have hk := set_0 (v := some (Cell.lst ((evs es j).map lE ++ [.list ((rot j es).map en)]))) hk
      generalize os.set k _ = os at h0 hk
      walk_at "e"
      refine ev_mapX (xs := (rot j es).reverse) (enc := en) (g := fun e => en (far e)) ?_
      walk_at "e"
      refine ed_rev ?_
      walk_at "e"
      refine ⟨by rw [List.map_reverse], fun x hx => ?_, ?_⟩
      · walk_at "e"
        exact Ed.of (x__law_other (isEn_en x)) ⟨rfl, rfl⟩
      rw [show (rot j es).reverse.map (fun e => en (far e)) = (rv (rot j es)).map en by unfold rv; rw [List.map_map]; rfl]
      walk_at "e"
      refine ev_app ⟨_, _, rfl, hk, ?_⟩
      walk_at "e"
      refine ⟨_, hk, by rw [List.length_append, List.length_map, evs_len]; simp only [List.length_cons, List.length_nil]; omega, ?_⟩
      have h0 := set_k (v := some (Cell.lst (((evs es j).map lE ++ [.list ((rot j es).map en)]) ++ [.list ((rv (rot j es)).map en)]))) h0 (show k ≠ 0 by omega)
      have hk := set_0 (v := some (Cell.lst (((evs es j).map lE ++ [.list ((rot j es).map en)]) ++ [.list ((rv (rot j es)).map en)]))) hk
      generalize os.set k _ = os at h0 hk
      rw [show ((evs es j).map lE ++ [.list ((rot j es).map en)]) ++ [.list ((rv (rot j es)).map en)] = (evs es (j + 1)).map lE by rw [evs_step, List.map_append, List.map_append]; rfl] at hk
      walk_at "e"
      refine ev_callN2 ?_
      walk_at "e"
      refine Ed.of (x_begun_at_N hweb hw hride (by omega) hr hj) ?_
      walk_at "e"
      have k2 := at_lt hk
      have k3 := at_lt h0
      have hm := app_end (os := os) (v := some (Cell.lst ((rot j es).map en)))
      have h0 := app_k (v := some (Cell.lst ((rot j es).map en))) h0
      have hk := app_k (v := some (Cell.lst ((rot j es).map en))) hk
      generalize os.length = m at hm k2 k3
      generalize os ++ [some (Cell.lst ((rot j es).map en))] = os at h0 hk hm
      refine ev_viewRepr (j := m) rfl hm ?_
      refine ed_repr (sq_l _) sR ⟨rfl, ?_⟩
      walk_at "e"
      refine ed_repr (sq_l _) sR ?_
      walk_at "e"
      refine ev_clr ⟨_, _, rfl, hm, ?_⟩
      walk_at "e"
      exact ⟨_, _, _, _, _, _, _, rfl, set_k h0 (by omega), set_k hk (by omega)⟩
    · rintro S ⟨x9, x10, x11, x12, x13, x14, os, rfl, h0, hk⟩
      rw [rng_len, Int.toNat_natCast] at hk
      have hes : 0 < es.length := by omega
      obtain ⟨mn, hmn, hml⟩ := x_least_round_N hweb hw hride (by omega) hr hne
      have hmw : mn ∈ ways es := hml.1
      have sM : Shw 2 (es.length * 83) (.list (mn.map en)) := by
        have hr2 := ways_round hr hmw
        have h5 := (rideB_iff.mp (roundB_iff.mp hr2).1).2.1
        have := shw_ride (ride_lE mn) fun e he => by
          obtain ⟨h1, h2, h3, h4⟩ := h5 e he
          exact ⟨by omega, by omega⟩
        rwa [ways_len hmw] at this
      have hevn : evs es es.length ≠ [] := fun z => by
        have := evs_len es es.length
        rw [z] at this
        simp at this; omega
      have hle := evs_len es es.length
      have hmem : ∀ w, w ∈ evs es es.length ↔ w ∈ ways es := fun w => evs_mem hes
      generalize evs es es.length = E at hk hevn hmem hle
      walk_at "e"
      refine ⟨by decide, by decide, ?_⟩
      refine eo_loop (fun t S => ∃ x12 x13 y8 os, S = ⟨[some (.scr ns), some (.own 0), some (.dat (.int (0 + (i : Int)))), some (.dat (wb p ls)), some (.dat (.list (es.map en))), some (.dat hd), some (.dat nt), some (.dat (.str (PyData.shown (.list [nt, hd])))), y8, x9, x10, x11, x12, x13, x14], os⟩ ∧ os[0]? = some (some (.lst cs)) ∧ ((t = 0 ∧ y8 = some (.own k) ∧ os[k]? = some (some (.lst (E.map lE)))) ∨ (1 ≤ t ∧ y8 = some (.dat (.list (E.map lE)))))) ⟨_, _, _, _, rfl, h0, .inl ⟨rfl, rfl, hk⟩⟩ ?_ ?_
      · rintro t z S hz ⟨x12, x13, y8, os, rfl, h0, hy⟩
        obtain ⟨ht, rfl⟩ := rng_at hz
        walk_at "e"
        refine ev_callN2 ?_
        walk_at "e"
        refine Ed.of hmn ?_
        walk_at "e"
        have k3 := at_lt h0
        have hm := app_end (os := os) (v := some (Cell.lst (mn.map en)))
        have h0 := app_k (v := some (Cell.lst (mn.map en))) h0
        have hy2 : (t = 0 ∧ y8 = some (.own k) ∧ (os ++ [some (Cell.lst (mn.map en))])[k]? = some (some (.lst (E.map lE))) ∧ k < os.length) ∨ (1 ≤ t ∧ y8 = some (.dat (.list (E.map lE)))) := by
          rcases hy with ⟨a, b, c⟩ | h
          · exact .inl ⟨a, b, app_k c, at_lt c⟩
          · exact .inr h
        clear hy
        generalize os.length = m at hm k3 hy2
        generalize os ++ [some (Cell.lst (mn.map en))] = os at h0 hm hy2
        refine ev_viewRepr (j := m) rfl hm ?_
        refine ed_repr (sq_l _) sM ⟨rfl, ?_⟩
        rcases hy2 with ⟨rfl, rfl, hk, k4⟩ | ⟨ht1, rfl⟩
        · walk_at "e"
          refine ev_varO ⟨_, _, rfl, hk, ?_⟩
          walk_at "e"
          refine ed_least hevn fun m2 hm2 => ?_
          rw [least_unique hm2 hml hmem, show lE mn = .list (mn.map en) from rfl]
          walk_at "e"
          refine ed_repr (sq_l _) sM ?_
          walk_at "e"
          refine ed_repr (sq_l _) s3 ?_
          walk_at "e"
          refine ev_revO ⟨_, _, rfl, set_k hm (show k ≠ m by omega), ?_⟩
          walk_at "e"
          exact ⟨_, _, _, _, rfl, set_k (set_k h0 (by omega)) (by omega), .inr ⟨by omega, rfl⟩⟩
        · walk_at "e"
          walk_at "e"
          refine ed_least hevn fun m2 hm2 => ?_
          rw [least_unique hm2 hml hmem, show lE mn = .list (mn.map en) from rfl]
          walk_at "e"
          refine ed_repr (sq_l _) sM ?_
          walk_at "e"
          refine ed_repr (sq_l _) s3 ?_
          walk_at "e"
          refine ev_revO ⟨_, _, rfl, hm, ?_⟩
          walk_at "e"
          exact ⟨_, _, _, _, rfl, set_k h0 (by omega), .inr ⟨by omega, rfl⟩⟩
      · rintro S ⟨x12, x13, y8, os, rfl, h0, hy⟩
        rcases hy with ⟨z, _, _⟩ | ⟨_, rfl⟩
        · simp [rng_len] at z
        · walk_at "e"
          refine ev_callN2 ?_
          walk_at "e"
          refine ev_drawR ⟨_, rfl, ?_⟩
          walk_at "e"
          rw [List.length_map]
          refine ⟨_, _, _, h0, rfl, hR, by omega, by omega, by omega, fun v cs a b hR => ?_⟩
          have h0 := set_0 (v := some (Cell.lst cs)) h0
          dsimp only
          generalize os.set 0 _ = os at h0
          have hv : v.toNat < E.length := by omega
          have hwm := (hmem _).mp (List.getElem_mem hv)
          refine ed_ixL a (d := lE E[v.toNat]) (by rw [List.getElem?_map, List.getElem?_eq_getElem hv]; rfl) ?_
          generalize E[v.toNat] = w at hwm
          walk_at "e"
          have hwl := ways_len hwm
          obtain ⟨m2, e4, hm2⟩ := x_least_round_N W hw (ride_lE w) (by omega) (ways_round hr hwm) (fun z => by rw [z] at hwl; simp at hwl; omega)
          refine Ed.of e4 ?_
          walk_at "e"
          refine ed_least hevn fun m3 hm3 => ?_
          rw [least_unique hm3 hm2 (fun x => by rw [hmem, ways_eq hwm])]
          refine ed_ne_self (n := 2) rfl (good_lE m2) ?_
          walk_at "e"
          exact ⟨_, _, _, _, _, _, _, _, _, _, _, _, _, cs, _, rfl, h0, hR.mono (by omega)⟩
  · rintro S ⟨x2, x3, x4, x5, x6, x7, x8, x9, x10, x11, x12, x13, x14, cs, os, rfl, h0, hR⟩
    walk_at "e"
    exact ⟨_, rfl⟩
end Lw.k18

set_option maxHeartbeats 16000000
namespace Lw.k18
open PySem PySem.Spec PyProof.Rows L2 RZ Fu Lw
theorem all_mk {l : PySem.W.OpenLaw} {w : World} {K : PySem.W.Frag} {h : Heap} {mg : Str → Option Value} {fa : Addr} (X : K.In h) (G : h.Ns mainGlobals mg) (hfa : mg "law" = some (.ref fa))
    {f__law_spring : Addr} {od__law_spring an__law_spring : Option Addr} {sl__law_spring : Array (Option Value)} {oc__law_spring kV__law_spring dc__law_spring pm__law_spring cd__law_spring ct__law_spring : Value}
    (a__law_spring : PySem.W.nsIn K mainGlobals "_law_spring" = some (some (.ref f__law_spring)))
    (l__law_spring : K.lookup f__law_spring = some ⟨oc__law_spring, od__law_spring, .func (PySem.W.fnOf "_law_spring" "_law_spring" (defArgs s__law_spring) (defBody s__law_spring) (defScope s__law_spring) .none kV__law_spring dc__law_spring pm__law_spring an__law_spring cd__law_spring ct__law_spring), sl__law_spring⟩)
    (c__law_spring : PySem.W.codeIn K cd__law_spring "_law_spring" = true)
    (k__law_spring : PySem.W.keepIn K (.ref f__law_spring) = true)
    {f__law_draw : Addr} {od__law_draw an__law_draw : Option Addr} {sl__law_draw : Array (Option Value)} {oc__law_draw kV__law_draw dc__law_draw pm__law_draw cd__law_draw ct__law_draw : Value}
    (a__law_draw : PySem.W.nsIn K mainGlobals "_law_draw" = some (some (.ref f__law_draw)))
    (l__law_draw : K.lookup f__law_draw = some ⟨oc__law_draw, od__law_draw, .func (PySem.W.fnOf "_law_draw" "_law_draw" (defArgs s__law_draw) (defBody s__law_draw) (defScope s__law_draw) .none kV__law_draw dc__law_draw pm__law_draw an__law_draw cd__law_draw ct__law_draw), sl__law_draw⟩)
    (c__law_draw : PySem.W.codeIn K cd__law_draw "_law_draw" = true)
    (k__law_draw : PySem.W.keepIn K (.ref f__law_draw) = true)
    {f__law_circle : Addr} {od__law_circle an__law_circle : Option Addr} {sl__law_circle : Array (Option Value)} {oc__law_circle kV__law_circle dc__law_circle pm__law_circle cd__law_circle ct__law_circle : Value}
    (a__law_circle : PySem.W.nsIn K mainGlobals "_law_circle" = some (some (.ref f__law_circle)))
    (l__law_circle : K.lookup f__law_circle = some ⟨oc__law_circle, od__law_circle, .func (PySem.W.fnOf "_law_circle" "_law_circle" (defArgs s__law_circle) (defBody s__law_circle) (defScope s__law_circle) .none kV__law_circle dc__law_circle pm__law_circle an__law_circle cd__law_circle ct__law_circle), sl__law_circle⟩)
    (c__law_circle : PySem.W.codeIn K cd__law_circle "_law_circle" = true)
    (k__law_circle : PySem.W.keepIn K (.ref f__law_circle) = true)
    {f__law_planted : Addr} {od__law_planted an__law_planted : Option Addr} {sl__law_planted : Array (Option Value)} {oc__law_planted kV__law_planted dc__law_planted pm__law_planted cd__law_planted ct__law_planted : Value}
    (a__law_planted : PySem.W.nsIn K mainGlobals "_law_planted" = some (some (.ref f__law_planted)))
    (l__law_planted : K.lookup f__law_planted = some ⟨oc__law_planted, od__law_planted, .func (PySem.W.fnOf "_law_planted" "_law_planted" (defArgs s__law_planted) (defBody s__law_planted) (defScope s__law_planted) .none kV__law_planted dc__law_planted pm__law_planted an__law_planted cd__law_planted ct__law_planted), sl__law_planted⟩)
    (c__law_planted : PySem.W.codeIn K cd__law_planted "_law_planted" = true)
    (k__law_planted : PySem.W.keepIn K (.ref f__law_planted) = true)
    {f__law_lists : Addr} {od__law_lists an__law_lists : Option Addr} {sl__law_lists : Array (Option Value)} {oc__law_lists kV__law_lists dc__law_lists pm__law_lists cd__law_lists ct__law_lists : Value}
    (a__law_lists : PySem.W.nsIn K mainGlobals "_law_lists" = some (some (.ref f__law_lists)))
    (l__law_lists : K.lookup f__law_lists = some ⟨oc__law_lists, od__law_lists, .func (PySem.W.fnOf "_law_lists" "_law_lists" (defArgs s__law_lists) (defBody s__law_lists) (defScope s__law_lists) .none kV__law_lists dc__law_lists pm__law_lists an__law_lists cd__law_lists ct__law_lists), sl__law_lists⟩)
    (c__law_lists : PySem.W.codeIn K cd__law_lists "_law_lists" = true)
    (k__law_lists : PySem.W.keepIn K (.ref f__law_lists) = true)
    {f__law_handed : Addr} {od__law_handed an__law_handed : Option Addr} {sl__law_handed : Array (Option Value)} {oc__law_handed kV__law_handed dc__law_handed pm__law_handed cd__law_handed ct__law_handed : Value}
    (a__law_handed : PySem.W.nsIn K mainGlobals "_law_handed" = some (some (.ref f__law_handed)))
    (l__law_handed : K.lookup f__law_handed = some ⟨oc__law_handed, od__law_handed, .func (PySem.W.fnOf "_law_handed" "_law_handed" (defArgs s__law_handed) (defBody s__law_handed) (defScope s__law_handed) .none kV__law_handed dc__law_handed pm__law_handed an__law_handed cd__law_handed ct__law_handed), sl__law_handed⟩)
    (c__law_handed : PySem.W.codeIn K cd__law_handed "_law_handed" = true)
    (k__law_handed : PySem.W.keepIn K (.ref f__law_handed) = true)
    {f_place_of : Addr} {od_place_of an_place_of : Option Addr} {sl_place_of : Array (Option Value)} {oc_place_of kV_place_of dc_place_of pm_place_of cd_place_of ct_place_of : Value}
    (a_place_of : PySem.W.nsIn K mainGlobals "place_of" = some (some (.ref f_place_of)))
    (l_place_of : K.lookup f_place_of = some ⟨oc_place_of, od_place_of, .func (PySem.W.fnOf "place_of" "place_of" (defArgs s_place_of) (defBody s_place_of) (defScope s_place_of) .none kV_place_of dc_place_of pm_place_of an_place_of cd_place_of ct_place_of), sl_place_of⟩)
    (c_place_of : PySem.W.codeIn K cd_place_of "place_of" = true)
    (k_place_of : PySem.W.keepIn K (.ref f_place_of) = true)
    {f_company_of : Addr} {od_company_of an_company_of : Option Addr} {sl_company_of : Array (Option Value)} {oc_company_of kV_company_of dc_company_of pm_company_of cd_company_of ct_company_of : Value}
    (a_company_of : PySem.W.nsIn K mainGlobals "company_of" = some (some (.ref f_company_of)))
    (l_company_of : K.lookup f_company_of = some ⟨oc_company_of, od_company_of, .func (PySem.W.fnOf "company_of" "company_of" (defArgs s_company_of) (defBody s_company_of) (defScope s_company_of) .none kV_company_of dc_company_of pm_company_of an_company_of cd_company_of ct_company_of), sl_company_of⟩)
    (c_company_of : PySem.W.codeIn K cd_company_of "company_of" = true)
    (k_company_of : PySem.W.keepIn K (.ref f_company_of) = true)
    {f_far_end : Addr} {od_far_end an_far_end : Option Addr} {sl_far_end : Array (Option Value)} {oc_far_end kV_far_end dc_far_end pm_far_end cd_far_end ct_far_end : Value}
    (a_far_end : PySem.W.nsIn K mainGlobals "far_end" = some (some (.ref f_far_end)))
    (l_far_end : K.lookup f_far_end = some ⟨oc_far_end, od_far_end, .func (PySem.W.fnOf "far_end" "far_end" (defArgs s_far_end) (defBody s_far_end) (defScope s_far_end) .none kV_far_end dc_far_end pm_far_end an_far_end cd_far_end ct_far_end), sl_far_end⟩)
    (c_far_end : PySem.W.codeIn K cd_far_end "far_end" = true)
    (k_far_end : PySem.W.keepIn K (.ref f_far_end) = true)
    {f_can_go_on : Addr} {od_can_go_on an_can_go_on : Option Addr} {sl_can_go_on : Array (Option Value)} {oc_can_go_on kV_can_go_on dc_can_go_on pm_can_go_on cd_can_go_on ct_can_go_on : Value}
    (a_can_go_on : PySem.W.nsIn K mainGlobals "can_go_on" = some (some (.ref f_can_go_on)))
    (l_can_go_on : K.lookup f_can_go_on = some ⟨oc_can_go_on, od_can_go_on, .func (PySem.W.fnOf "can_go_on" "can_go_on" (defArgs s_can_go_on) (defBody s_can_go_on) (defScope s_can_go_on) .none kV_can_go_on dc_can_go_on pm_can_go_on an_can_go_on cd_can_go_on ct_can_go_on), sl_can_go_on⟩)
    (c_can_go_on : PySem.W.codeIn K cd_can_go_on "can_go_on" = true)
    (k_can_go_on : PySem.W.keepIn K (.ref f_can_go_on) = true)
    {f_is_row : Addr} {od_is_row an_is_row : Option Addr} {sl_is_row : Array (Option Value)} {oc_is_row kV_is_row dc_is_row pm_is_row cd_is_row ct_is_row : Value}
    (a_is_row : PySem.W.nsIn K mainGlobals "is_row" = some (some (.ref f_is_row)))
    (l_is_row : K.lookup f_is_row = some ⟨oc_is_row, od_is_row, .func (PySem.W.fnOf "is_row" "is_row" (defArgs s_is_row) (defBody s_is_row) (defScope s_is_row) .none kV_is_row dc_is_row pm_is_row an_is_row cd_is_row ct_is_row), sl_is_row⟩)
    (c_is_row : PySem.W.codeIn K cd_is_row "is_row" = true)
    (k_is_row : PySem.W.keepIn K (.ref f_is_row) = true)
    {f_is_whole : Addr} {od_is_whole an_is_whole : Option Addr} {sl_is_whole : Array (Option Value)} {oc_is_whole kV_is_whole dc_is_whole pm_is_whole cd_is_whole ct_is_whole : Value}
    (a_is_whole : PySem.W.nsIn K mainGlobals "is_whole" = some (some (.ref f_is_whole)))
    (l_is_whole : K.lookup f_is_whole = some ⟨oc_is_whole, od_is_whole, .func (PySem.W.fnOf "is_whole" "is_whole" (defArgs s_is_whole) (defBody s_is_whole) (defScope s_is_whole) .none kV_is_whole dc_is_whole pm_is_whole an_is_whole cd_is_whole ct_is_whole), sl_is_whole⟩)
    (c_is_whole : PySem.W.codeIn K cd_is_whole "is_whole" = true)
    (k_is_whole : PySem.W.keepIn K (.ref f_is_whole) = true)
    {f_is_end : Addr} {od_is_end an_is_end : Option Addr} {sl_is_end : Array (Option Value)} {oc_is_end kV_is_end dc_is_end pm_is_end cd_is_end ct_is_end : Value}
    (a_is_end : PySem.W.nsIn K mainGlobals "is_end" = some (some (.ref f_is_end)))
    (l_is_end : K.lookup f_is_end = some ⟨oc_is_end, od_is_end, .func (PySem.W.fnOf "is_end" "is_end" (defArgs s_is_end) (defBody s_is_end) (defScope s_is_end) .none kV_is_end dc_is_end pm_is_end an_is_end cd_is_end ct_is_end), sl_is_end⟩)
    (c_is_end : PySem.W.codeIn K cd_is_end "is_end" = true)
    (k_is_end : PySem.W.keepIn K (.ref f_is_end) = true)
    {f_ride_is : Addr} {od_ride_is an_ride_is : Option Addr} {sl_ride_is : Array (Option Value)} {oc_ride_is kV_ride_is dc_ride_is pm_ride_is cd_ride_is ct_ride_is : Value}
    (a_ride_is : PySem.W.nsIn K mainGlobals "ride_is" = some (some (.ref f_ride_is)))
    (l_ride_is : K.lookup f_ride_is = some ⟨oc_ride_is, od_ride_is, .func (PySem.W.fnOf "ride_is" "ride_is" (defArgs s_ride_is) (defBody s_ride_is) (defScope s_ride_is) .none kV_ride_is dc_ride_is pm_ride_is an_ride_is cd_ride_is ct_ride_is), sl_ride_is⟩)
    (c_ride_is : PySem.W.codeIn K cd_ride_is "ride_is" = true)
    (k_ride_is : PySem.W.keepIn K (.ref f_ride_is) = true)
    {f_round_is : Addr} {od_round_is an_round_is : Option Addr} {sl_round_is : Array (Option Value)} {oc_round_is kV_round_is dc_round_is pm_round_is cd_round_is ct_round_is : Value}
    (a_round_is : PySem.W.nsIn K mainGlobals "round_is" = some (some (.ref f_round_is)))
    (l_round_is : K.lookup f_round_is = some ⟨oc_round_is, od_round_is, .func (PySem.W.fnOf "round_is" "round_is" (defArgs s_round_is) (defBody s_round_is) (defScope s_round_is) .none kV_round_is dc_round_is pm_round_is an_round_is cd_round_is ct_round_is), sl_round_is⟩)
    (c_round_is : PySem.W.codeIn K cd_round_is "round_is" = true)
    (k_round_is : PySem.W.keepIn K (.ref f_round_is) = true)
    {f_need_round : Addr} {od_need_round an_need_round : Option Addr} {sl_need_round : Array (Option Value)} {oc_need_round kV_need_round dc_need_round pm_need_round cd_need_round ct_need_round : Value}
    (a_need_round : PySem.W.nsIn K mainGlobals "need_round" = some (some (.ref f_need_round)))
    (l_need_round : K.lookup f_need_round = some ⟨oc_need_round, od_need_round, .func (PySem.W.fnOf "need_round" "need_round" (defArgs s_need_round) (defBody s_need_round) (defScope s_need_round) .none kV_need_round dc_need_round pm_need_round an_need_round cd_need_round ct_need_round), sl_need_round⟩)
    (c_need_round : PySem.W.codeIn K cd_need_round "need_round" = true)
    (k_need_round : PySem.W.keepIn K (.ref f_need_round) = true)
    {f_begun_at : Addr} {od_begun_at an_begun_at : Option Addr} {sl_begun_at : Array (Option Value)} {oc_begun_at kV_begun_at dc_begun_at pm_begun_at cd_begun_at ct_begun_at : Value}
    (a_begun_at : PySem.W.nsIn K mainGlobals "begun_at" = some (some (.ref f_begun_at)))
    (l_begun_at : K.lookup f_begun_at = some ⟨oc_begun_at, od_begun_at, .func (PySem.W.fnOf "begun_at" "begun_at" (defArgs s_begun_at) (defBody s_begun_at) (defScope s_begun_at) .none kV_begun_at dc_begun_at pm_begun_at an_begun_at cd_begun_at ct_begun_at), sl_begun_at⟩)
    (c_begun_at : PySem.W.codeIn K cd_begun_at "begun_at" = true)
    (k_begun_at : PySem.W.keepIn K (.ref f_begun_at) = true)
    {f_faced_about : Addr} {od_faced_about an_faced_about : Option Addr} {sl_faced_about : Array (Option Value)} {oc_faced_about kV_faced_about dc_faced_about pm_faced_about cd_faced_about ct_faced_about : Value}
    (a_faced_about : PySem.W.nsIn K mainGlobals "faced_about" = some (some (.ref f_faced_about)))
    (l_faced_about : K.lookup f_faced_about = some ⟨oc_faced_about, od_faced_about, .func (PySem.W.fnOf "faced_about" "faced_about" (defArgs s_faced_about) (defBody s_faced_about) (defScope s_faced_about) .none kV_faced_about dc_faced_about pm_faced_about an_faced_about cd_faced_about ct_faced_about), sl_faced_about⟩)
    (c_faced_about : PySem.W.codeIn K cd_faced_about "faced_about" = true)
    (k_faced_about : PySem.W.keepIn K (.ref f_faced_about) = true)
    {f_all_ways : Addr} {od_all_ways an_all_ways : Option Addr} {sl_all_ways : Array (Option Value)} {oc_all_ways kV_all_ways dc_all_ways pm_all_ways cd_all_ways ct_all_ways : Value}
    (a_all_ways : PySem.W.nsIn K mainGlobals "all_ways" = some (some (.ref f_all_ways)))
    (l_all_ways : K.lookup f_all_ways = some ⟨oc_all_ways, od_all_ways, .func (PySem.W.fnOf "all_ways" "all_ways" (defArgs s_all_ways) (defBody s_all_ways) (defScope s_all_ways) .none kV_all_ways dc_all_ways pm_all_ways an_all_ways cd_all_ways ct_all_ways), sl_all_ways⟩)
    (c_all_ways : PySem.W.codeIn K cd_all_ways "all_ways" = true)
    (k_all_ways : PySem.W.keepIn K (.ref f_all_ways) = true)
    {f_least_round : Addr} {od_least_round an_least_round : Option Addr} {sl_least_round : Array (Option Value)} {oc_least_round kV_least_round dc_least_round pm_least_round cd_least_round ct_least_round : Value}
    (a_least_round : PySem.W.nsIn K mainGlobals "least_round" = some (some (.ref f_least_round)))
    (l_least_round : K.lookup f_least_round = some ⟨oc_least_round, od_least_round, .func (PySem.W.fnOf "least_round" "least_round" (defArgs s_least_round) (defBody s_least_round) (defScope s_least_round) .none kV_least_round dc_least_round pm_least_round an_least_round cd_least_round ct_least_round), sl_least_round⟩)
    (c_least_round : PySem.W.codeIn K cd_least_round "least_round" = true)
    (k_least_round : PySem.W.keepIn K (.ref f_least_round) = true)
    {f__law_other : Addr} {od__law_other an__law_other : Option Addr} {sl__law_other : Array (Option Value)} {oc__law_other kV__law_other dc__law_other pm__law_other cd__law_other ct__law_other : Value}
    (a__law_other : PySem.W.nsIn K mainGlobals "_law_other" = some (some (.ref f__law_other)))
    (l__law_other : K.lookup f__law_other = some ⟨oc__law_other, od__law_other, .func (PySem.W.fnOf "_law_other" "_law_other" (defArgs s__law_other) (defBody s__law_other) (defScope s__law_other) .none kV__law_other dc__law_other pm__law_other an__law_other cd__law_other ct__law_other), sl__law_other⟩)
    (c__law_other : PySem.W.codeIn K cd__law_other "_law_other" = true)
    (k__law_other : PySem.W.keepIn K (.ref f__law_other) = true)
    {f_law : Addr} {od_law an_law : Option Addr} {sl_law : Array (Option Value)} {oc_law kV_law dc_law pm_law cd_law ct_law : Value}
    (a_law : PySem.W.nsIn K mainGlobals "law" = some (some (.ref f_law)))
    (l_law : K.lookup f_law = some ⟨oc_law, od_law, .func (PySem.W.fnOf "law" "law" (defArgs s_law) (defBody s_law) (defScope s_law) .none kV_law dc_law pm_law an_law cd_law ct_law), sl_law⟩)
    (c_law : PySem.W.codeIn K cd_law "law" = true)
    (k_law : PySem.W.keepIn K (.ref f_law) = true)
    (z_abs : PySem.W.nsIn K mainGlobals "abs" = some none)
    (z_all : PySem.W.nsIn K mainGlobals "all" = some none)
    (z_bool : PySem.W.nsIn K mainGlobals "bool" = some none)
    (z_int : PySem.W.nsIn K mainGlobals "int" = some none)
    (z_isinstance : PySem.W.nsIn K mainGlobals "isinstance" = some none)
    (z_len : PySem.W.nsIn K mainGlobals "len" = some none)
    (z_list : PySem.W.nsIn K mainGlobals "list" = some none)
    (z_min : PySem.W.nsIn K mainGlobals "min" = some none)
    (z_range : PySem.W.nsIn K mainGlobals "range" = some none)
    (z_repr : PySem.W.nsIn K mainGlobals "repr" = some none)
    (z_set : PySem.W.nsIn K mainGlobals "set" = some none)
    (z_tuple : PySem.W.nsIn K mainGlobals "tuple" = some none)
    (z_zip : PySem.W.nsIn K mainGlobals "zip" = some none)
    {t_SIDES : Tok}
    (n_SIDES : PySem.W.nsIn K mainGlobals "SIDES" = some (some (.int 2 t_SIDES)))
    : ∃ fd : FuncData, (∀ (s : Shared) (v : Value), BindsTo s fd ⟨[v], []⟩ [("script", v)]) ∧ ∀ base : Heap, K.In base → base.Ns mainGlobals mg → FnG l.prog w K mg base 11 fa fd ["script"] (spLaw K (mScr 15 g_law)) := by
  have e := hfa.symm.trans (PySem.W.mg_of X G a_law)
  cases e
  have T : Tx K mg := {
    d__law_spring := ⟨_, _, PySem.W.mg_of X G a__law_spring, fun_mk (st := s__law_spring) l__law_spring c__law_spring k__law_spring, (fun_mk (st := s__law_spring) l__law_spring c__law_spring k__law_spring).binds (ps := ["script"]) fun _ _ _ _ _ _ us hl => match us, hl with | [_], _ => rfl⟩
    d__law_draw := ⟨_, _, PySem.W.mg_of X G a__law_draw, fun_mk (st := s__law_draw) l__law_draw c__law_draw k__law_draw, (fun_mk (st := s__law_draw) l__law_draw c__law_draw k__law_draw).binds (ps := ["spring", "many"]) fun _ _ _ _ _ _ us hl => match us, hl with | [_, _], _ => rfl⟩
    d__law_circle := ⟨_, _, PySem.W.mg_of X G a__law_circle, fun_mk (st := s__law_circle) l__law_circle c__law_circle k__law_circle, (fun_mk (st := s__law_circle) l__law_circle c__law_circle k__law_circle).binds (ps := ["spring", "many", "places", "first"]) fun _ _ _ _ _ _ us hl => match us, hl with | [_, _, _, _], _ => rfl⟩
    d__law_planted := ⟨_, _, PySem.W.mg_of X G a__law_planted, fun_mk (st := s__law_planted) l__law_planted c__law_planted k__law_planted, (fun_mk (st := s__law_planted) l__law_planted c__law_planted k__law_planted).binds (ps := ["spring", "most"]) fun _ _ _ _ _ _ us hl => match us, hl with | [_, _], _ => rfl⟩
    d__law_lists := ⟨_, _, PySem.W.mg_of X G a__law_lists, fun_mk (st := s__law_lists) l__law_lists c__law_lists k__law_lists, (fun_mk (st := s__law_lists) l__law_lists c__law_lists k__law_lists).binds (ps := ["thing"]) fun _ _ _ _ _ _ us hl => match us, hl with | [_], _ => rfl⟩
    d__law_handed := ⟨_, _, PySem.W.mg_of X G a__law_handed, fun_mk (st := s__law_handed) l__law_handed c__law_handed k__law_handed, (fun_mk (st := s__law_handed) l__law_handed c__law_handed k__law_handed).binds (ps := ["spring", "thing"]) fun _ _ _ _ _ _ us hl => match us, hl with | [_, _], _ => rfl⟩
    d_place_of := ⟨_, _, PySem.W.mg_of X G a_place_of, fun_mk (st := s_place_of) l_place_of c_place_of k_place_of, (fun_mk (st := s_place_of) l_place_of c_place_of k_place_of).binds (ps := ["web", "end"]) fun _ _ _ _ _ _ us hl => match us, hl with | [_, _], _ => rfl⟩
    d_company_of := ⟨_, _, PySem.W.mg_of X G a_company_of, fun_mk (st := s_company_of) l_company_of c_company_of k_company_of, (fun_mk (st := s_company_of) l_company_of c_company_of k_company_of).binds (ps := ["web", "end"]) fun _ _ _ _ _ _ us hl => match us, hl with | [_, _], _ => rfl⟩
    d_far_end := ⟨_, _, PySem.W.mg_of X G a_far_end, fun_mk (st := s_far_end) l_far_end c_far_end k_far_end, (fun_mk (st := s_far_end) l_far_end c_far_end k_far_end).binds (ps := ["end"]) fun _ _ _ _ _ _ us hl => match us, hl with | [_], _ => rfl⟩
    d_can_go_on := ⟨_, _, PySem.W.mg_of X G a_can_go_on, fun_mk (st := s_can_go_on) l_can_go_on c_can_go_on k_can_go_on, (fun_mk (st := s_can_go_on) l_can_go_on c_can_go_on k_can_go_on).binds (ps := ["web", "end", "later"]) fun _ _ _ _ _ _ us hl => match us, hl with | [_, _, _], _ => rfl⟩
    d_is_row := ⟨_, _, PySem.W.mg_of X G a_is_row, fun_mk (st := s_is_row) l_is_row c_is_row k_is_row, (fun_mk (st := s_is_row) l_is_row c_is_row k_is_row).binds (ps := ["thing", "size"]) fun _ _ _ _ _ _ us hl => match us, hl with | [_, _], _ => rfl⟩
    d_is_whole := ⟨_, _, PySem.W.mg_of X G a_is_whole, fun_mk (st := s_is_whole) l_is_whole c_is_whole k_is_whole, (fun_mk (st := s_is_whole) l_is_whole c_is_whole k_is_whole).binds (ps := ["thing"]) fun _ _ _ _ _ _ us hl => match us, hl with | [_], _ => rfl⟩
    d_is_end := ⟨_, _, PySem.W.mg_of X G a_is_end, fun_mk (st := s_is_end) l_is_end c_is_end k_is_end, (fun_mk (st := s_is_end) l_is_end c_is_end k_is_end).binds (ps := ["web", "thing"]) fun _ _ _ _ _ _ us hl => match us, hl with | [_, _], _ => rfl⟩
    d_ride_is := ⟨_, _, PySem.W.mg_of X G a_ride_is, fun_mk (st := s_ride_is) l_ride_is c_ride_is k_ride_is, (fun_mk (st := s_ride_is) l_ride_is c_ride_is k_ride_is).binds (ps := ["web", "ride"]) fun _ _ _ _ _ _ us hl => match us, hl with | [_, _], _ => rfl⟩
    d_round_is := ⟨_, _, PySem.W.mg_of X G a_round_is, fun_mk (st := s_round_is) l_round_is c_round_is k_round_is, (fun_mk (st := s_round_is) l_round_is c_round_is k_round_is).binds (ps := ["web", "ride"]) fun _ _ _ _ _ _ us hl => match us, hl with | [_, _], _ => rfl⟩
    d_need_round := ⟨_, _, PySem.W.mg_of X G a_need_round, fun_mk (st := s_need_round) l_need_round c_need_round k_need_round, (fun_mk (st := s_need_round) l_need_round c_need_round k_need_round).binds (ps := ["web", "ride"]) fun _ _ _ _ _ _ us hl => match us, hl with | [_, _], _ => rfl⟩
    d_begun_at := ⟨_, _, PySem.W.mg_of X G a_begun_at, fun_mk (st := s_begun_at) l_begun_at c_begun_at k_begun_at, (fun_mk (st := s_begun_at) l_begun_at c_begun_at k_begun_at).binds (ps := ["web", "ride", "number"]) fun _ _ _ _ _ _ us hl => match us, hl with | [_, _, _], _ => rfl⟩
    d_faced_about := ⟨_, _, PySem.W.mg_of X G a_faced_about, fun_mk (st := s_faced_about) l_faced_about c_faced_about k_faced_about, (fun_mk (st := s_faced_about) l_faced_about c_faced_about k_faced_about).binds (ps := ["ends"]) fun _ _ _ _ _ _ us hl => match us, hl with | [_], _ => rfl⟩
    d_all_ways := ⟨_, _, PySem.W.mg_of X G a_all_ways, fun_mk (st := s_all_ways) l_all_ways c_all_ways k_all_ways, (fun_mk (st := s_all_ways) l_all_ways c_all_ways k_all_ways).binds (ps := ["ends"]) fun _ _ _ _ _ _ us hl => match us, hl with | [_], _ => rfl⟩
    d_least_round := ⟨_, _, PySem.W.mg_of X G a_least_round, fun_mk (st := s_least_round) l_least_round c_least_round k_least_round, (fun_mk (st := s_least_round) l_least_round c_least_round k_least_round).binds (ps := ["web", "ride"]) fun _ _ _ _ _ _ us hl => match us, hl with | [_, _], _ => rfl⟩
    d__law_other := ⟨_, _, PySem.W.mg_of X G a__law_other, fun_mk (st := s__law_other) l__law_other c__law_other k__law_other, (fun_mk (st := s__law_other) l__law_other c__law_other k__law_other).binds (ps := ["end"]) fun _ _ _ _ _ _ us hl => match us, hl with | [_], _ => rfl⟩
    d_law := ⟨_, _, PySem.W.mg_of X G a_law, fun_mk (st := s_law) l_law c_law k_law, (fun_mk (st := s_law) l_law c_law k_law).binds (ps := ["script"]) fun _ _ _ _ _ _ us hl => match us, hl with | [_], _ => rfl⟩
    z_abs := PySem.W.mg_none_of X G z_abs
    z_all := PySem.W.mg_none_of X G z_all
    z_bool := PySem.W.mg_none_of X G z_bool
    z_int := PySem.W.mg_none_of X G z_int
    z_isinstance := PySem.W.mg_none_of X G z_isinstance
    z_len := PySem.W.mg_none_of X G z_len
    z_list := PySem.W.mg_none_of X G z_list
    z_min := PySem.W.mg_none_of X G z_min
    z_range := PySem.W.mg_none_of X G z_range
    z_repr := PySem.W.mg_none_of X G z_repr
    z_set := PySem.W.mg_none_of X G z_set
    z_tuple := PySem.W.mg_none_of X G z_tuple
    z_zip := PySem.W.mg_none_of X G z_zip
    c_SIDES := ⟨_, PySem.W.mg_of X G n_SIDES⟩
  }
  exact ⟨PySem.W.fnOf "law" "law" (defArgs s_law) (defBody s_law) (defScope s_law) .none kV_law dc_law pm_law an_law cd_law ct_law, fun s v => .of_eq rfl, fun base _ _ => fn_lawG (fun B hB => trivial) (fun_mk (st := s_law) l_law c_law k_law) sc_law rfl (by decide) (law_body T _)⟩
end Lw.k18
open PySem PySem.W PyProof.Rows
set_option maxHeartbeats 0 in
theorem PySem.Challenge.cw_changeride_k18_rounds_begun_elsewhere_holds : PySem.Challenge.rw_changeride_k18_rounds_begun_elsewhere.Holds := by
  w_on; o_law; k_head; (case hw => w_witness2)
  k_fill
  refine Fu.walk_ofG (l := PySem.Challenge.rw_changeride_k18_rounds_begun_elsewhere) (n := 63) (k := 11) (x := "script") (sp := fun w => Fu.spLaw _ (Fu.mScr 15 Lw.k18.g_law)) rfl (by decide) rfl ⟨rfl, by decide, by decide⟩ (fun w h Y => PySem.W.kIn_of Y) ?F (fun _ H a ns hl ho hS => ⟨a, ns, rfl, hS, hl, fun b xs e => (by rcases ho b with z | ⟨o, ys, z⟩ <;> rw [e] at z <;> cases z), Lw.k18.law_true ns hl, (fun p hp => nomatch hp), fun _ => rfl⟩)
  case F =>
    intro w mg fa h KX G hmg
    refine' Lw.k18.all_mk KX G hmg ?a__law_spring ?l__law_spring ?c__law_spring ?k__law_spring ?a__law_draw ?l__law_draw ?c__law_draw ?k__law_draw ?a__law_circle ?l__law_circle ?c__law_circle ?k__law_circle ?a__law_planted ?l__law_planted ?c__law_planted ?k__law_planted ?a__law_lists ?l__law_lists ?c__law_lists ?k__law_lists ?a__law_handed ?l__law_handed ?c__law_handed ?k__law_handed ?a_place_of ?l_place_of ?c_place_of ?k_place_of ?a_company_of ?l_company_of ?c_company_of ?k_company_of ?a_far_end ?l_far_end ?c_far_end ?k_far_end ?a_can_go_on ?l_can_go_on ?c_can_go_on ?k_can_go_on ?a_is_row ?l_is_row ?c_is_row ?k_is_row ?a_is_whole ?l_is_whole ?c_is_whole ?k_is_whole ?a_is_end ?l_is_end ?c_is_end ?k_is_end ?a_ride_is ?l_ride_is ?c_ride_is ?k_ride_is ?a_round_is ?l_round_is ?c_round_is ?k_round_is ?a_need_round ?l_need_round ?c_need_round ?k_need_round ?a_begun_at ?l_begun_at ?c_begun_at ?k_begun_at ?a_faced_about ?l_faced_about ?c_faced_about ?k_faced_about ?a_all_ways ?l_all_ways ?c_all_ways ?k_all_ways ?a_least_round ?l_least_round ?c_least_round ?k_least_round ?a__law_other ?l__law_other ?c__law_other ?k__law_other ?a_law ?l_law ?c_law ?k_law ?z_abs ?z_all ?z_bool ?z_int ?z_isinstance ?z_len ?z_list ?z_min ?z_range ?z_repr ?z_set ?z_tuple ?z_zip ?n_SIDES
    (case a__law_spring => k_is)
    (case l__law_spring => k_is)
    (case c__law_spring => k_is)
    (case k__law_spring => k_is)
    (case a__law_draw => k_is)
    (case l__law_draw => k_is)
    (case c__law_draw => k_is)
    (case k__law_draw => k_is)
    (case a__law_circle => k_is)
    (case l__law_circle => k_is)
    (case c__law_circle => k_is)
    (case k__law_circle => k_is)
    (case a__law_planted => k_is)
    (case l__law_planted => k_is)
    (case c__law_planted => k_is)
    (case k__law_planted => k_is)
    (case a__law_lists => k_is)
    (case l__law_lists => k_is)
    (case c__law_lists => k_is)
    (case k__law_lists => k_is)
    (case a__law_handed => k_is)
    (case l__law_handed => k_is)
    (case c__law_handed => k_is)
    (case k__law_handed => k_is)
    (case a_place_of => k_is)
    (case l_place_of => k_is)
    (case c_place_of => k_is)
    (case k_place_of => k_is)
    (case a_company_of => k_is)
    (case l_company_of => k_is)
    (case c_company_of => k_is)
    (case k_company_of => k_is)
    (case a_far_end => k_is)
    (case l_far_end => k_is)
    (case c_far_end => k_is)
    (case k_far_end => k_is)
    (case a_can_go_on => k_is)
    (case l_can_go_on => k_is)
    (case c_can_go_on => k_is)
    (case k_can_go_on => k_is)
    (case a_is_row => k_is)
    (case l_is_row => k_is)
    (case c_is_row => k_is)
    (case k_is_row => k_is)
    (case a_is_whole => k_is)
    (case l_is_whole => k_is)
    (case c_is_whole => k_is)
    (case k_is_whole => k_is)
    (case a_is_end => k_is)
    (case l_is_end => k_is)
    (case c_is_end => k_is)
    (case k_is_end => k_is)
    (case a_ride_is => k_is)
    (case l_ride_is => k_is)
    (case c_ride_is => k_is)
    (case k_ride_is => k_is)
    (case a_round_is => k_is)
    (case l_round_is => k_is)
    (case c_round_is => k_is)
    (case k_round_is => k_is)
    (case a_need_round => k_is)
    (case l_need_round => k_is)
    (case c_need_round => k_is)
    (case k_need_round => k_is)
    (case a_begun_at => k_is)
    (case l_begun_at => k_is)
    (case c_begun_at => k_is)
    (case k_begun_at => k_is)
    (case a_faced_about => k_is)
    (case l_faced_about => k_is)
    (case c_faced_about => k_is)
    (case k_faced_about => k_is)
    (case a_all_ways => k_is)
    (case l_all_ways => k_is)
    (case c_all_ways => k_is)
    (case k_all_ways => k_is)
    (case a_least_round => k_is)
    (case l_least_round => k_is)
    (case c_least_round => k_is)
    (case k_least_round => k_is)
    (case a__law_other => k_is)
    (case l__law_other => k_is)
    (case c__law_other => k_is)
    (case k__law_other => k_is)
    (case a_law => k_is)
    (case l_law => k_is)
    (case c_law => k_is)
    (case k_law => k_is)
    (case z_abs => k_is)
    (case z_all => k_is)
    (case z_bool => k_is)
    (case z_int => k_is)
    (case z_isinstance => k_is)
    (case z_len => k_is)
    (case z_list => k_is)
    (case z_min => k_is)
    (case z_range => k_is)
    (case z_repr => k_is)
    (case z_set => k_is)
    (case z_tuple => k_is)
    (case z_zip => k_is)
    (case n_SIDES => k_is)
