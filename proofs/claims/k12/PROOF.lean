import PyProof.Rows.All
import Wide.All
import OpenK.AllK
import Wide.FinOn
import HandS.ForMost
import HandS.Flow
import HandS.Deep
import HandS.TupAny
import HandS.Codes
import HandS.IsInst
import HandS.Style
import HandS.Wide
import HandS.Zip
import HandS.Rev
import HandS.Lambda
import HandS.Exc
import HandS.TupLe
import KE.DataMinMax
import KE.SortData
import HandS.Conv
import HandS.Ends
import HandS.RaiseMore
import KE.DataFind
import HandS.Flt
import HandS.ExcIs
import HandS.ExcValue
import HandS.WordsExc
import HandS.Dict
import KE.KDictDisplayH
import HandS.ReplaceLit
import KE.GoesMore
import KE.GoesEnum
import HandS.Set
import HandS.SetBool
import PyProof.MeetsSeq2
import HandS.Text
import KE.SortKeyHeap
import KE.KDictSum
import KE.KDictCopyH
import HandS.SetKeys
import HandS.EndTab
import HandS.Strs
import HandS.NoneIn
import HandS.DictComp
import PyProof.DictWalks
import HandS.SetTxt0
import HandS.Keys
import PySem.Challenge.RW_changeride_k12_wants_refused
set_option Elab.async false
set_option linter.all false
set_option maxRecDepth 100000

set_option maxHeartbeats 4000000
namespace Fu
open PySem PySem.Spec PyProof.Rows L2

/-! ### the frame: what may be forgotten for the time of a call -/
def Loose : HO → Prop
  | .lst _ => True
  | .dK _ => True
  | .dT _ => True
  | .set _ _ => True
  | _ => False
def lpins (H G : Hp) (h : Heap) : List (Addr × Obj) :=
  (List.range h.objs.size).filterMap fun a => if (H a).isSome = true ∧ (G a).isNone = true then (h.get? a).map fun o => (a, o) else none
theorem mem_lpins {H G : Hp} {h : Heap} {a : Addr} {o : Obj} {u : HO} (h1 : H a = some u) (h2 : G a = none) (h3 : h.get? a = some o) : (a, o) ∈ lpins H G h :=
  List.mem_filterMap.mpr ⟨a, List.mem_range.mpr (Heap.lt_size h3), by simp [h1, h2, h3]⟩
theorem of_lpins {H G : Hp} {h : Heap} {p : Addr × Obj} (hp : p ∈ lpins H G h) : (∃ u, H p.1 = some u) ∧ G p.1 = none ∧ h.get? p.1 = some p.2 := by
  obtain ⟨b, _, e⟩ := List.mem_filterMap.mp hp
  split at e
  · rename_i hc
    cases q : h.get? b with
    | none => rw [q] at e; cases e
    | some u =>
      rw [q] at e
      have e' : (b, u) = p := Option.some.inj e
      subst e'
      exact ⟨Option.isSome_iff_exists.mp hc.1, Option.isNone_iff_eq_none.mp hc.2, q⟩
  · cases e
/-- G within H: what is over may be forgotten -/
structure Sub (G H : Hp) : Prop where
  same : Same G H
  loose : ∀ a o, H a = some o → G a = none → Loose o
theorem Sub.none {G H : Hp} (S : Sub G H) {b : Addr} (e : H b = none) : G b = none := S.same.free e
theorem Sub.keep {G H : Hp} (S : Sub G H) {b : Addr} {o : HO} (e : H b = some o) (n : ¬ Loose o) : G b = some o := by
  cases q : G b with
  | none => exact absurd (S.loose b o e q) n
  | some u => rw [S.same b u q] at e; exact e
theorem Sub.refl (H : Hp) : Sub H H := ⟨Same.refl H, fun a o e n => by rw [e] at n; cases n⟩
def mixH (G H G' : Hp) : Hp := fun a => match G a, H a with
  | none, some o => some o
  | _, _ => G' a
theorem mix_lost {G H G' : Hp} {a : Addr} {o : HO} (h1 : G a = none) (h2 : H a = some o) : mixH G H G' a = some o := by unfold mixH; rw [h1, h2]
theorem mix_held {G H G' : Hp} {a : Addr} {o : HO} (h1 : G a = some o) : mixH G H G' a = G' a := by unfold mixH; rw [h1]
theorem mix_free {G H G' : Hp} {a : Addr} (h2 : H a = none) : mixH G H G' a = G' a := by unfold mixH; rw [h2]; cases G a <;> rfl

section
variable {X : Cx} {pins : List (Addr × Obj)} {σ : L2.St} {H G G' : Hp} {s s' : Shared}
theorem fs_none (I : Inv X pins σ H s) {b : Addr} (hb : b ∈ X.fs) : H b = none := by
  obtain ⟨_, o, ho, _⟩ := I.ok.funs.mem hb
  exact I.base.free b o ho (I.ok.frf b hb) fun z => I.ok.exfs b z hb
theorem loose_cell {P : Program} {w : World} {h : Heap} {a : Addr} {u : HO} {o : Obj} (x : ObjOk P w H h a u) (l : Loose u) (e : h.get? a = some o) : ∀ v, o.data ≠ .cell v := by
  intro v z
  cases u with
  | lst xs => obtain ⟨_, its, n, _, e1⟩ := x; rw [e] at e1; cases e1; cases z
  | dK kvs => obtain ⟨_, _, vs, _, ob, es, ep, e1, _, d, _⟩ := x; rw [e] at e1; cases e1; rw [d] at z; cases z
  | dT kvs => obtain ⟨_, _, vs, _, ob, es, ep, e1, _, d, _⟩ := x; rw [e] at e1; cases e1; rw [d] at z; cases z
  | set S n => obtain ⟨ob, es, ep, t, e1, _, d, _⟩ := x; rw [e] at e1; cases e1; rw [d] at z; cases z
  | _ => exact l
theorem loose_there {P : Program} {w : World} {h : Heap} {a : Addr} {u : HO} (x : ObjOk P w H h a u) (l : Loose u) : ∃ o, h.get? a = some o := by
  cases u with
  | lst xs => obtain ⟨_, its, n, _, e1⟩ := x; exact ⟨_, e1⟩
  | dK kvs => obtain ⟨_, _, vs, _, ob, es, ep, e1, _⟩ := x; exact ⟨_, e1⟩
  | dT kvs => obtain ⟨_, _, vs, _, ob, es, ep, e1, _⟩ := x; exact ⟨_, e1⟩
  | set S n => obtain ⟨ob, es, ep, t, e1, _⟩ := x; exact ⟨_, e1⟩
  | _ => exact l.elim
theorem forget (I : Inv X pins σ H s) (S : Sub G H) : Inv X (pins ++ lpins H G s.heap) σ G s where
  ok := I.ok
  os := I.os
  bare := I.bare
  base := ⟨I.base.keep, I.base.slot, fun b o e n hx => S.none (I.base.free b o e n hx), I.base.there,
    fun b xs q => S.keep (I.base.tups b xs q) (fun z => z), fun b o u q => S.keep (I.base.frzs b o u q) (fun z => z),
    fun b ps q => by obtain ⟨m, e⟩ := I.base.tbls b ps q; exact ⟨m, S.keep e (fun z => z)⟩⟩
  loc := I.loc
  cell := I.cell
  free := S.none I.free
  freeC := fun x c e => S.none (I.freeC x c e)
  pin := fun p hp => by
    rcases List.mem_append.mp hp with hp | hp
    · obtain ⟨e, n, r⟩ := I.pin p (List.mem_append_left _ hp)
      exact ⟨e, S.none n, r⟩
    · rcases List.mem_append.mp hp with hp | hp
      · obtain ⟨e, n, r⟩ := I.pin p (List.mem_append_right _ hp)
        exact ⟨e, S.none n, r⟩
      · obtain ⟨⟨u, hu⟩, hg, he⟩ := of_lpins hp
        refine ⟨he, hg, fun z => ?_, fun z => ?_, loose_cell (I.hok p.1 u hu) (S.loose _ _ hu hg) he⟩
        · rw [z, I.free] at hu; cases hu
        · rw [fs_none I z] at hu; cases hu
  hok := fun a o e => (I.hok a o (S.same a o e)).stay (fun b u _ q => q) (fun b q => S.keep q (fun z => z)) (fun b xs q => S.keep q (fun z => z))
  len := I.len
theorem lost_of {τ : L2.St} (I : Inv X pins σ H s) (S : Sub G H) (J : Inv X (pins ++ lpins H G s.heap) τ G' s') : ∀ b o, H b = some o → G b = none → G' b = none := fun b o hb hg => by
  obtain ⟨ob, hob⟩ : ∃ ob, s.heap.get? b = some ob := loose_there (I.hok b o hb) (S.loose b o hb hg)
  exact (J.pin (b, ob) (List.mem_append_right _ (List.mem_append_right _ (mem_lpins hb hg hob)))).2.1
theorem remember {τ : L2.St} (I : Inv X pins σ H s) (S : Sub G H) (J : Inv X (pins ++ lpins H G s.heap) τ G' s') (ht : ∀ b xs, G b = some (.tup xs) → G' b = some (.tup xs)) :
    Inv X pins τ (mixH G H G') s' := by
  have lost : ∀ b o, H b = some o → G b = none → G' b = none ∧ ∀ ob, s.heap.get? b = some ob → s'.heap.get? b = some ob := fun b o hb hg => by
    obtain ⟨ob, hob⟩ : ∃ ob, s.heap.get? b = some ob := loose_there (I.hok b o hb) (S.loose b o hb hg)
    obtain ⟨e1, e2, _⟩ := J.pin (b, ob) (List.mem_append_right _ (List.mem_append_right _ (mem_lpins hb hg hob)))
    exact ⟨e2, fun ob' h' => by rw [hob] at h'; cases h'; exact e1⟩
  have up : ∀ b o, G' b = some o → mixH G H G' b = some o := fun b o e => by
    cases q : G b with
    | some u => rw [mix_held q]; exact e
    | none =>
      cases r : H b with
      | none => rw [mix_free r]; exact e
      | some u => rw [(lost b u r q).1] at e; cases e
  have nn : ∀ b, G' b = none → H b = none → mixH G H G' b = none := fun b e r => by rw [mix_free r]; exact e
  refine ⟨J.ok, J.os, J.bare, ⟨J.base.keep, J.base.slot, fun b o e n hx => nn b (J.base.free b o e n hx) (I.base.free b o e n hx), J.base.there,
    fun b xs q => up _ _ (J.base.tups b xs q), fun b o u q => up _ _ (J.base.frzs b o u q), fun b ps q => ?_⟩, J.loc, J.cell, nn _ J.free I.free, fun x c e => nn _ (J.freeC x c e) (I.freeC x c e), fun p hp => ?_, fun a o e => ?_, J.len⟩
  · obtain ⟨m, e⟩ := J.base.tbls b ps q
    exact ⟨m, up _ _ e⟩
  · have hp' : p ∈ X.pn ++ (pins ++ lpins H G s.heap) := (List.mem_append.mp hp).elim (fun z => List.mem_append_left _ z) fun z => List.mem_append_right _ (List.mem_append_left _ z)
    obtain ⟨e, n, r⟩ := J.pin p hp'
    exact ⟨e, nn _ n (I.pin p hp).2.1, r⟩
  · cases q : G a with
    | some u =>
      rw [mix_held q] at e
      exact (J.hok a o e).stay (fun b u _ q => q) (fun b q => up _ _ q) (fun b xs q => up _ _ q)
    | none =>
      cases r : H a with
      | none =>
        rw [mix_free r] at e
        exact (J.hok a o e).stay (fun b u _ q => q) (fun b q => up _ _ q) (fun b xs q => up _ _ q)
      | some u =>
        rw [mix_lost q r] at e
        cases e
        have k := (lost a o r q).2
        have x := I.hok a o r
        have l := S.loose a o r q
        cases o with
        | lst xs => obtain ⟨z, its, n, rv, e1⟩ := x; exact ⟨z, its, n, rv, k _ e1⟩
        | dK kvs => obtain ⟨z, y, vs, rv, ob, es, ep, e1, c⟩ := x; exact ⟨z, y, vs, rv, ob, es, ep, k _ e1, c⟩
        | dT kvs =>
          obtain ⟨z, y, xs, rv, ob, es, ep, e1, c⟩ := x
          exact ⟨z, y, xs, Paired.mapP rv fun p q z => ⟨z.1, up _ _ (ht _ _ (S.keep z.2.1 (fun z => z))), z.2.2⟩, ob, es, ep, k _ e1, c⟩
        | set T n => obtain ⟨ob, es, ep, t, e1, c⟩ := x; exact ⟨ob, es, ep, t, k _ e1, c⟩
        | _ => exact l.elim
end

section
variable {X : Cx} {CX : CXT} {k : Nat} {f C : Addr} {fd : FuncData} {ps : List Str} {sp : Sp} {dvs : List V} {ds : List Value} {E : XK} {x m : Str} {p pos apos : Pos} {e o : Expr} {es : List Expr} {ta : TE} {t : TA}
theorem run_fnF {pins : List (Addr × Obj)} {σ : L2.St} {H G : Hp} {s : Shared} {Q : VK} {us : List Value} {vs : List V} (F : FnOk X.prog X.w X.K X.mg X.base CX k f fd ps sp) (hr : Room k X.A) (hb : Binds X.K fd ps ds) (hd : Vals dvs ds) (hx : Passes CX X E)
    (I : Inv X pins σ H s) (r : Vals vs us) (S : Sub G H) (h : sp (vs ++ dvs) G (fun v G' => (∀ b xs, G b = some (.tup xs) → G' b = some (.tup xs)) ∧ ((∀ b o, H b = some o → G b = none → G' b = none) → Q v (mixH G H G'))) E) :
    wpAny (model X.prog X.w) X.A (call (.ref f) us) (EP X pins σ Q) X.xe s := by
  refine thn (run_fn F hr hb hd hx (forget I S) r h) fun u s' ⟨v, G', I', rv, ht, q⟩ => ⟨v, mixH G H G', remember I S I' ht, rv, q (lost_of I S I')⟩
/-- f(..) called over a part of the heap -/
def tCallF (sp : Sp) (dvs : List V) (E : XK) (t : TA) : TE := fun σ H Q => t σ H fun vs H1 => ∃ G, Sub G H1 ∧ sp (vs ++ dvs) G (fun v G' => (∀ b xs, G b = some (.tup xs) → G' b = some (.tup xs)) ∧ ((∀ b o, H1 b = some o → G b = none → G' b = none) → Q v (mixH G H1 G'))) E
theorem pe_callF (F : FnOk X.prog X.w X.K X.mg X.base CX k f fd ps sp) (hr : Room k X.A) (hg : Gl X x) (hm : X.mg x = some (.ref f)) (hk : PySem.W.keepIn X.K (.ref f) = true) (hb : Binds X.K fd ps ds) (hd : Vals dvs ds) (hx : Passes CX X E)
    (ha : PA X (e :: es) t) (hdb : (x == ("__debug__" : Str)) = false := by decide) (he : starEach (e :: es) X.env = (false, eval e X.env) :: starEach es X.env := by rfl) (hpl : (backTo pos (starEach es X.env)).any (·.1) = false := by rfl) :
    PE X (.Call (.Name x p) (e :: es) [] pos) (tCallF sp dvs E t) := by
  refine ⟨fun pins s σ H Q I h => ?_⟩
  refine wpAny_Call_Name_kw (ld_glob I hg hm ?_ hdb)
  refine PySem.W.callWith_K (h₀ := X.base) I.ok.mod.kin hk (thn (ha.run pos pins s σ H _ I h) fun us s1 ⟨vs, H1, I1, r, G, S, q⟩ => ⟨I1.kIn, ?_⟩) he hpl
  exact run_fnF F hr hb hd hx I1 r S q
end

/-! ### any expression, test, target, over a part of the heap -/
def Back (G H : Hp) (Q : Hp → Prop) : Hp → Prop := fun G' => (∀ b xs, G b = some (.tup xs) → G' b = some (.tup xs)) ∧ ((∀ b o, H b = some o → G b = none → G' b = none) → Q (mixH G H G'))
def tFr (t : TE) : TE := fun σ H Q => ∃ G, Sub G H ∧ t σ G fun v => Back G H (Q v)
def tFrT (t : TT) : TT := fun σ H Q => ∃ G, Sub G H ∧ t σ G fun v => Back G H (Q v)
def gFr (t : TG) : TG := fun x σ H Q => ∃ G, Sub G H ∧ t x σ G fun σ' => Back G H (Q σ')
def iFr (t : TI) : TI := fun σ H R => ∃ G, Sub G H ∧ t σ G fun J => Back G H (R J)
section
variable {X : Cx} {e : Expr}
theorem pe_fr {t : TE} (h : PE X e t) : PE X e (tFr t) := ⟨fun pins s σ H Q I ⟨G, S, q⟩ =>
  thn (h.run _ s σ G _ (forget I S) q) fun u s' ⟨v, G', J, r, ht, q⟩ => ⟨v, _, remember I S J ht, r, q (lost_of I S J)⟩⟩
theorem pts_fr {es : List Expr} {t : TT} (h : PTs X es t) : PTs X es (tFrT t) := ⟨fun pins s σ H Q I ⟨G, S, q⟩ =>
  thn (h.run _ s σ G _ (forget I S) q) fun u s' ⟨G', J, ht, q⟩ => ⟨_, remember I S J ht, q (lost_of I S J)⟩⟩
theorem pg_fr {t : TG} (h : PG X e t) : PG X e (gFr t) := ⟨fun pins s σ H v u Q I r ⟨G, S, q⟩ =>
  thn (h.run _ s σ G v u _ (forget I S) r q) fun _ s' ⟨σ', G', J, ht, q⟩ => ⟨σ', _, remember I S J ht, q (lost_of I S J)⟩⟩
end

/-! ### growing heaps: all but the tables of code objects stay, and these are tables still -/
class TabsC where
  T : List (Addr × Str)
  C : List (Addr × Addr)
def NT : HO → Prop
  | .tbl _ => False
  | _ => True
theorem Loose.nt {o : HO} (h : Loose o) : NT o := by
  cases o <;> first | trivial | exact h
section
variable [τ : TabsC]
structure SameT (F F' : Hp) : Prop where
  old : ∀ b o, F b = some o → NT o → F' b = some o
  tab : LamX.Tabs τ.T F → LamX.Tabs τ.T F'
  stay : ∀ b o, F b = some o → ∃ o', F' b = some o'
theorem SameT.refl (F : Hp) : SameT F F := ⟨fun _ _ h _ => h, fun t => t, fun _ o h => ⟨o, h⟩⟩
theorem SameT.trans {F G H : Hp} (a : SameT F G) (b : SameT G H) : SameT F H := ⟨fun c o h n => b.old c o (a.old c o h n) n, fun t => b.tab (a.tab t), fun c o h => let ⟨o', h'⟩ := a.stay c o h; b.stay c o' h'⟩
theorem _root_.L2.Same.t {F F' : Hp} (h : Same F F') : SameT F F' := ⟨fun b o e _ => h b o e, fun t => t.ext h, fun b o e => ⟨o, h b o e⟩⟩
theorem SameT.empty (B : Hp) : SameT (fun _ => none) B := ⟨(fun _ _ q => nomatch q), (fun t p hp => by
  obtain ⟨ps, h, _⟩ := t p hp
  cases h), (fun _ _ q => nomatch q)⟩
theorem SameT.seq {K : PySem.W.Frag} {F F' : Hp} {a : Addr} {xs : List V} (e : SameT F F') (h : SqL K F a xs) : SqL K F' a xs := by
  rcases h with (h | ⟨o, h⟩) | h
  · exact .inl (.inl (e.old _ _ h trivial))
  · exact .inl (.inr ⟨o, e.old _ _ h trivial⟩)
  · exact .inr h
end
end Fu

set_option maxHeartbeats 4000000
namespace Fu
open PySem PySem.Spec PyProof.Rows L2
variable [TabsC]

abbrev D := PyData

/-- a dict stands at a: what it holds is not told -/
def dictO (a : Addr) : HO := .ext (PySem.W.KitAt a "dict")
/-- a dict whose keys are tuples of ints, its values, too, as data -/
def tDict (kvs : List (List Int × List Int)) : PyData := .dict ((.str "T", .none) :: kvs.map fun p => (.tuple (p.1.map .int), .tuple (p.2.map .int)))
def RowT (H : Hp) (p : List Key × V) (q : List Int × List Int) : Prop := p.1 = q.1.map Sum.inl ∧ q.2.length ≤ sizeLine ∧ ∃ b, p.2 = .ref b ∧ H b = some (.tup (q.2.map V.int))
/-! ### a value, down to what is within, in a heap that stays -/
mutual
inductive Rp (K : PySem.W.Frag) (H : Hp) : V → PyData → Prop
  | non : Rp K H .non .none
  | bl (b : Bool) : Rp K H (.bl b) (.bool b)
  | int (i : Int) : Rp K H (.int i) (.int i)
  | str {x : Str} : x.length ≤ sizeLine → Rp K H (.str x) (.str x)
  | lst {a : Addr} {xs : List V} {ds : List PyData} : H a = some (.lst xs) → Rps K H xs ds → ds.length ≤ sizeLine → Rp K H (.ref a) (.list ds)
  | tup {a : Addr} {xs : List V} {ds : List PyData} : H a = some (.tup xs) → Rps K H xs ds → ds.length ≤ sizeLine → Rp K H (.ref a) (.tuple ds)
  | dct {a : Addr} {kvs : List (PyData × PyData)} : ((∃ es, H a = some (.dK es)) ∨ (∃ es, H a = some (.dT es)) ∨ H a = some (dictO a)) → (kvs = [] → H a = some (.dK [])) → (kvs = [] ∨ kvs = [(.none, .none)]) → Rp K H (.ref a) (.dict kvs)
  | dcT {a : Addr} {vs : List (List Key × V)} {kvs : List (List Int × List Int)} : H a = some (.dT vs) → Paired (RowT H) vs kvs → Rp K H (.ref a) (tDict kvs)
inductive Rps (K : PySem.W.Frag) (H : Hp) : List V → List PyData → Prop
  | nil : Rps K H [] []
  | cons {v : V} {vs : List V} {d : PyData} {ds : List PyData} : Rp K H v d → Rps K H vs ds → Rps K H (v :: vs) (d :: ds)
end
section
variable {K : PySem.W.Frag} {H H' : Hp}
theorem sqT_same {a : Addr} {xs : List V} (e : SameT H H') (h : SqT K H a xs) : SqT K H' a xs := by
  rcases h with (h | ⟨o, h⟩) | h
  · exact .inl (.inl (e.old _ _ h trivial))
  · exact .inl (.inr ⟨o, e.old _ _ h trivial⟩)
  · exact .inr h
theorem dcT_mono (e : SameT H H') : ∀ {vs : List (List Key × V)} {kvs : List (List Int × List Int)}, Paired (RowT H) vs kvs → Paired (RowT H') vs kvs
  | _, _, .nil => .nil
  | _, _, .cons ⟨h1, h0, b, h2, h3⟩ t => .cons ⟨h1, h0, b, h2, e.old _ _ h3 trivial⟩ (dcT_mono e t)
mutual
theorem Rp.mono (e : SameT H H') : ∀ (d : PyData) (v : V), Rp K H v d → Rp K H' v d
  | .none, _, h => by cases h; exact .non
  | .bool b, _, h => by cases h; exact .bl b
  | .int i, _, h => by cases h; exact .int i
  | .str x, _, h => by
    cases h with
    | str hz => exact .str hz
  | .list ds, _, h => by
    cases h with
    | lst hs ha hz => exact .lst (e.old _ _ hs trivial) (Rps.mono e ds _ ha) hz
  | .tuple ds, _, h => by
    cases h with
    | tup hs ha hz => exact .tup (e.old _ _ hs trivial) (Rps.mono e ds _ ha) hz
  | .dict kvs, _, h => by
    cases h with
    | dcT h1 h2 => exact .dcT (e.old _ _ h1 trivial) (dcT_mono e h2)
    | dct hd h0 h00 =>
      refine .dct ?_ (fun z => e.old _ _ (h0 z) trivial) h00
      rcases hd with ⟨es, hd⟩ | ⟨es, hd⟩ | hd
      · exact .inl ⟨es, e.old _ _ hd trivial⟩
      · exact .inr (.inl ⟨es, e.old _ _ hd trivial⟩)
      · exact .inr (.inr (e.old _ _ hd trivial))
theorem Rps.mono (e : SameT H H') : ∀ (ds : List PyData) (vs : List V), Rps K H vs ds → Rps K H' vs ds
  | [], _, h => by cases h; exact .nil
  | d :: ds, _, h => by
    cases h with
    | cons h1 h2 => exact .cons (Rp.mono e d _ h1) (Rps.mono e ds _ h2)
end
mutual
theorem Rp.dp : ∀ (d : PyData) (v : V), d.canLay0 = true → Rp K H v d → Dp K H v d
  | .none, _, _, h => by cases h; exact .non
  | .bool b, _, _, h => by cases h; exact .bl b
  | .int i, _, _, h => by cases h; exact .int i
  | .str x, _, _, h => by cases h; exact .str x
  | .list ds, _, c, h => by
    cases h with
    | lst hs ha hz => exact .lst (SqL.of hs) (Rps.dp ds _ (by simpa [PyData.canLay0] using c) ha)
  | .tuple ds, _, c, h => by
    cases h with
    | tup hs ha hz => exact .tup (.inl (.inl hs)) (Rps.dp ds _ (by simpa [PyData.canLay0] using c) ha)
  | .dict kvs, _, c, _ => by simp [PyData.canLay0] at c
theorem Rps.dp : ∀ (ds : List PyData) (vs : List V), PyData.canLayAll0 ds = true → Rps K H vs ds → DpAll K H vs ds
  | [], _, _, h => by cases h; exact .nil
  | d :: ds, _, c, h => by
    have c' : d.canLay0 = true ∧ PyData.canLayAll0 ds = true := by simpa [PyData.canLayAll0] using c
    cases h with
    | cons h1 h2 => exact .cons (Rp.dp d _ c'.1 h1) (Rps.dp ds _ c'.2 h2)
end
theorem Rps.length : ∀ {ds : List PyData} {vs : List V}, Rps K H vs ds → vs.length = ds.length
  | [], _, h => by cases h; rfl
  | d :: ds, _, h => by
    cases h with
    | cons _ h2 => rw [List.length_cons, List.length_cons, Rps.length h2]
theorem Rps.get : ∀ {ds : List PyData} {vs : List V} {i : Nat} {d : PyData}, Rps K H vs ds → ds[i]? = some d → ∃ v, vs[i]? = some v ∧ Rp K H v d
  | [], _, _, _, _, e => by simp at e
  | _ :: _, _, 0, _, h, e => by
    cases h with
    | cons h1 h2 =>
      simp at e; subst e
      exact ⟨_, rfl, h1⟩
  | _ :: ds, _, i + 1, _, h, e => by
    cases h with
    | cons h1 h2 =>
      obtain ⟨v, e1, r⟩ := Rps.get (i := i) h2 (by simpa using e)
      exact ⟨v, by simpa using e1, r⟩
theorem Rps.append : ∀ {ds es : List PyData} {vs us : List V}, Rps K H vs ds → Rps K H us es → Rps K H (vs ++ us) (ds ++ es)
  | [], _, _, _, h, g => by cases h; exact g
  | _ :: _, _, _, _, h, g => by
    cases h with
    | cons h1 h2 => exact .cons h1 (h2.append g)
theorem Rps.take : ∀ {ds : List PyData} {vs : List V} (n : Nat), Rps K H vs ds → Rps K H (vs.take n) (ds.take n)
  | _, _, 0, _ => .nil
  | [], _, n + 1, h => by cases h; exact .nil
  | _ :: _, _, n + 1, h => by
    cases h with
    | cons h1 h2 => exact .cons h1 (h2.take n)
theorem Rps.drop : ∀ {ds : List PyData} {vs : List V} (n : Nat), Rps K H vs ds → Rps K H (vs.drop n) (ds.drop n)
  | _, _, 0, h => h
  | [], _, n + 1, h => by cases h; exact .nil
  | _ :: _, _, n + 1, h => by
    cases h with
    | cons h1 h2 => exact h2.drop n
theorem Rps.set : ∀ {ds : List PyData} {vs : List V} {v : V} {d : PyData} (i : Nat), Rp K H v d → Rps K H vs ds → Rps K H (vs.set i v) (ds.set i d)
  | [], _, _, _, _, _, h => by cases h; exact .nil
  | _ :: _, _, _, _, 0, r, h => by
    cases h with
    | cons h1 h2 => exact .cons r h2
  | _ :: _, _, _, _, i + 1, r, h => by
    cases h with
    | cons h1 h2 => exact .cons h1 (Rps.set i r h2)
theorem Rps.reverse {ds : List PyData} {vs : List V} (h : Rps K H vs ds) : Rps K H vs.reverse ds.reverse := by
  induction ds generalizing vs with
  | nil => cases h; exact .nil
  | cons d ds ih =>
    cases h with
    | cons h1 h2 =>
      rw [List.reverse_cons, List.reverse_cons]
      exact (ih h2).append (.cons h1 .nil)
theorem Rps.rep {ds : List PyData} {vs : List V} (h : Rps K H vs ds) : ∀ n : Nat, Rps K H (List.replicate n vs).flatten (List.replicate n ds).flatten
  | 0 => .nil
  | n + 1 => by
    rw [List.replicate_succ, List.replicate_succ, List.flatten_cons, List.flatten_cons]
    exact h.append (h.rep n)
theorem Rps.ints : ∀ ns : List Int, Rps K H (ns.map V.int) (ns.map PyData.int)
  | [] => .nil
  | n :: ns => .cons (.int n) (Rps.ints ns)
end

/-! ### the state: slots, and things that are still written (cells) -/
/-- an exception object of the class cls stands at a -/
def XO (cls : Value) (a : Addr) : HO := .ext fun h => ∃ (o : Obj) (fs : Array Value), h.get? a = some o ∧ Zc cls none o ∧ o.data = .fields fs
inductive R where
  | dat (d : PyData)
  | own (j : Nat)
  | scr (ns : List Int)
  | tup (rs : List R)
  | exc (c : Str)
inductive Cell where
  | lst (xs : List PyData)
  | lR (xs : List R)
  | dR (kvs : List (Key × R))
  | tR (kvs : List (List Key × R))
structure Sx where
  sl : List (Option R)
  os : List (Option Cell)
abbrev M (α : Type) := Sx → Option (α × Sx)

mutual
/-- a value of the state: data, a cell's place, the script, a tuple of such -/
inductive Rr (K : PySem.W.Frag) (A : List Addr) (F : Hp) : V → R → Prop
  | dat {v : V} {d : PyData} : Rp K F v d → Rr K A F v (.dat d)
  | own {j : Nat} {a : Addr} : A[j]? = some a → Rr K A F (.ref a) (.own j)
  | scr {a : Addr} {ns : List Int} : ns.length ≤ 63 → SqL K F a (ns.map V.int) → Rr K A F (.ref a) (.scr ns)
  | tup {a : Addr} {vs : List V} {rs : List R} : F a = some (.tup vs) → Rrs K A F vs rs → rs.length ≤ sizeLine → Rr K A F (.ref a) (.tup rs)
  | exc {a D : Addr} {c : Str} : PySem.W.nsIn K mainGlobals c = some (some (.ref D)) → F a = some (XO (.ref D) a) → Rr K A F (.ref a) (.exc c)
inductive Rrs (K : PySem.W.Frag) (A : List Addr) (F : Hp) : List V → List R → Prop
  | nil : Rrs K A F [] []
  | cons {v : V} {vs : List V} {r : R} {rs : List R} : Rr K A F v r → Rrs K A F vs rs → Rrs K A F (v :: vs) (r :: rs)
end
theorem pre_at {α : Type} {A B : List α} {j : Nat} {a : α} (p : A <+: B) (h : A[j]? = some a) : B[j]? = some a := by
  obtain ⟨C, rfl⟩ := p
  rw [List.getElem?_append_left (List.getElem?_eq_some_iff.mp h).1]; exact h
section
variable {K : PySem.W.Frag} {A A' : List Addr} {F F' : Hp}
mutual
theorem Rr.mono (p : A <+: A') (e : SameT F F') : ∀ (r : R) (v : V), Rr K A F v r → Rr K A' F' v r
  | .dat d, _, h => by
    cases h with
    | dat h => exact .dat (Rp.mono e d _ h)
  | .own j, _, h => by
    cases h with
    | own h => exact .own (pre_at p h)
  | .scr ns, _, h => by
    cases h with
    | scr z h => exact .scr z (e.seq h)
  | .tup rs, _, h => by
    cases h with
    | tup s h z => exact .tup (e.old _ _ s trivial) (Rrs.mono p e rs _ h) z
  | .exc c, _, h => by
    cases h with
    | exc h1 h2 => exact .exc h1 (e.old _ _ h2 trivial)
theorem Rrs.mono (p : A <+: A') (e : SameT F F') : ∀ (rs : List R) (vs : List V), Rrs K A F vs rs → Rrs K A' F' vs rs
  | [], _, h => by cases h; exact .nil
  | r :: rs, _, h => by
    cases h with
    | cons h1 h2 => exact .cons (Rr.mono p e r _ h1) (Rrs.mono p e rs _ h2)
end
theorem Rrs.length : ∀ {rs : List R} {vs : List V}, Rrs K A F vs rs → vs.length = rs.length
  | [], _, h => by cases h; rfl
  | _ :: rs, _, h => by
    cases h with
    | cons _ h2 => rw [List.length_cons, List.length_cons, Rrs.length h2]
theorem Rrs.get : ∀ {rs : List R} {vs : List V} {i : Nat} {r : R}, Rrs K A F vs rs → rs[i]? = some r → ∃ v, vs[i]? = some v ∧ Rr K A F v r
  | [], _, _, _, _, e => by simp at e
  | _ :: _, _, 0, _, h, e => by
    cases h with
    | cons h1 h2 =>
      simp at e; subst e
      exact ⟨_, rfl, h1⟩
  | _ :: rs, _, i + 1, _, h, e => by
    cases h with
    | cons h1 h2 =>
      obtain ⟨v, e1, r⟩ := Rrs.get (i := i) h2 (by simpa using e)
      exact ⟨v, by simpa using e1, r⟩
theorem Rrs.append : ∀ {rs ss : List R} {vs us : List V}, Rrs K A F vs rs → Rrs K A F us ss → Rrs K A F (vs ++ us) (rs ++ ss)
  | [], _, _, _, h, g => by cases h; exact g
  | _ :: _, _, _, _, h, g => by
    cases h with
    | cons h1 h2 => exact .cons h1 (h2.append g)
theorem Rrs.take : ∀ {rs : List R} {vs : List V} (n : Nat), Rrs K A F vs rs → Rrs K A F (vs.take n) (rs.take n)
  | _, _, 0, _ => .nil
  | [], _, n + 1, h => by cases h; exact .nil
  | _ :: _, _, n + 1, h => by
    cases h with
    | cons h1 h2 => exact .cons h1 (h2.take n)
theorem Rrs.drop : ∀ {rs : List R} {vs : List V} (n : Nat), Rrs K A F vs rs → Rrs K A F (vs.drop n) (rs.drop n)
  | _, _, 0, h => h
  | [], _, n + 1, h => by cases h; exact .nil
  | _ :: _, _, n + 1, h => by
    cases h with
    | cons h1 h2 => exact h2.drop n
theorem Rrs.set : ∀ {rs : List R} {vs : List V} {v : V} {r : R} (i : Nat), Rr K A F v r → Rrs K A F vs rs → Rrs K A F (vs.set i v) (rs.set i r)
  | [], _, _, _, _, _, h => by cases h; exact .nil
  | _ :: _, _, _, _, 0, r, h => by
    cases h with
    | cons h1 h2 => exact .cons r h2
  | _ :: _, _, _, _, i + 1, r, h => by
    cases h with
    | cons h1 h2 => exact .cons h1 (Rrs.set i r h2)
end

abbrev PairR (K : PySem.W.Frag) (A : List Addr) (F : Hp) {κ : Type} (vs : List (κ × V)) (ks : List (κ × R)) : Prop := Paired (fun p q => p.1 = q.1 ∧ Rr K A F p.2 q.2) vs ks
def CellOk (K : PySem.W.Frag) (A : List Addr) (F H : Hp) (a : Addr) : Cell → Prop
  | .lst ds => ∃ vs, H a = some (.lst vs) ∧ Rps K F vs ds ∧ ds.length ≤ sizeLine
  | .lR rs => ∃ vs, H a = some (.lst vs) ∧ Rrs K A F vs rs ∧ rs.length ≤ sizeLine
  | .dR kvs => ∃ vs : List (Key × V), H a = some (.dK vs) ∧ PairR K A F vs kvs
  | .tR kvs => ∃ vs : List (List Key × V), H a = some (.dT vs) ∧ PairR K A F vs kvs
structure Ok (K : PySem.W.Frag) (A : List Addr) (F H : Hp) (S : Sx) (σ : L2.St) : Prop where
  sub : Sub F H
  len : S.sl.length = σ.length
  alen : S.os.length = A.length
  nd : A.Nodup
  rslot : ∀ (i : Nat) r, S.sl[i]? = some (some r) → ∃ v, σ[i]? = some (some v) ∧ Rr K A F v r
  cell : ∀ (j : Nat) c, S.os[j]? = some (some c) → ∃ a, A[j]? = some a ∧ F a = none ∧ CellOk K A F H a c
  trk : ∀ a ∈ A, ∃ o, H a = some o ∧ Loose o
  tab : LamX.Tabs TabsC.T F
section
variable {K : PySem.W.Frag} {A : List Addr} {F H : Hp} {S : Sx} {σ : L2.St}
theorem Ok.slot (k : Ok K A F H S σ) (i : Nat) (d : PyData) (h : S.sl[i]? = some (some (.dat d))) : ∃ v, σ[i]? = some (some v) ∧ Rp K F v d := by
  obtain ⟨v, e, r⟩ := k.rslot i _ h
  cases r with
  | dat r => exact ⟨v, e, r⟩
theorem Ok.oslot (k : Ok K A F H S σ) (i j : Nat) (h : S.sl[i]? = some (some (.own j))) : ∃ a, A[j]? = some a ∧ σ[i]? = some (some (.ref a)) := by
  obtain ⟨v, e, r⟩ := k.rslot i _ h
  cases r with
  | own r => exact ⟨_, r, e⟩
theorem Ok.sslot (k : Ok K A F H S σ) (i : Nat) (ns : List Int) (h : S.sl[i]? = some (some (.scr ns))) : ns.length ≤ 63 ∧ ∃ a, σ[i]? = some (some (.ref a)) ∧ SqL K F a (ns.map V.int) := by
  obtain ⟨v, e, r⟩ := k.rslot i _ h
  cases r with
  | scr z r => exact ⟨z, _, e, r⟩
end

theorem paired_mono {κ : Type} {K : PySem.W.Frag} {A A' : List Addr} {F F' : Hp} (p : A <+: A') (e : SameT F F') {vs : List (κ × V)} {ks : List (κ × R)} (h : PairR K A F vs ks) : PairR K A' F' vs ks :=
  Paired.mapP h fun _ _ z => ⟨z.1, z.2.mono p e _ _⟩
/-- the cell at a stands over a greater heap -/
theorem CellOk.mono {K : PySem.W.Frag} {A A' : List Addr} {F F' H H' : Hp} {a : Addr} {c : Cell} (p : A <+: A') (e : SameT F F') (ha : ∀ o, H a = some o → H' a = some o) (h : CellOk K A F H a c) : CellOk K A' F' H' a c := by
  cases c with
  | lst ds => obtain ⟨vs, h1, h2, hz⟩ := h; exact ⟨vs, ha _ h1, Rps.mono e _ _ h2, hz⟩
  | lR ds => obtain ⟨vs, h1, h2, hz⟩ := h; exact ⟨vs, ha _ h1, Rrs.mono p e _ _ h2, hz⟩
  | dR ds => obtain ⟨vs, h1, h2⟩ := h; exact ⟨vs, ha _ h1, paired_mono p e h2⟩
  | tR ds => obtain ⟨vs, h1, h2⟩ := h; exact ⟨vs, ha _ h1, paired_mono p e h2⟩

theorem same_upd {H : Hp} {p : Addr} {o : HO} (h : H p = none) : SameT H (upd H p o) := L2.Same.t fun b x e => by
  rw [upd_ne (ne_of_none e h)]
  exact e
section
variable {K : PySem.W.Frag} {A : List Addr} {F F' H H' : Hp} {S : Sx} {σ : L2.St}
/-- both heaps grow -/
theorem Ok.grow (k : Ok K A F H S σ) (sub : Sub F' H') (e : SameT F F') (eh : ∀ a ∈ A, ∀ o, H a = some o → H' a = some o) (hf : ∀ a ∈ A, F a = none → F' a = none) : Ok K A F' H' S σ where
  sub := sub
  len := k.len
  alen := k.alen
  nd := k.nd
  rslot := fun i r h => by obtain ⟨v, e1, q⟩ := k.rslot i r h; exact ⟨v, e1, q.mono (List.prefix_refl _) e _ _⟩
  cell := fun j c h => by
    obtain ⟨a, e1, f, c⟩ := k.cell j c h
    have hm : a ∈ A := List.mem_of_getElem? e1
    exact ⟨a, e1, hf a hm f, c.mono (List.prefix_refl _) e (eh a hm)⟩
  trk := fun a h => by obtain ⟨o, q, l⟩ := k.trk a h; exact ⟨o, eh a h o q, l⟩
  tab := e.tab k.tab
/-- a new object, known for good -/
theorem Ok.laid (k : Ok K A F H S σ) {p : Addr} {o : HO} (hp : H p = none) : Ok K A (upd F p o) (upd H p o) S σ := by
  have fp : F p = none := k.sub.none hp
  refine k.grow ⟨fun b u q => ?_, fun b u q n => ?_⟩ (same_upd fp) (fun a ha u q => by rw [upd_ne (ne_of_none q hp)]; exact q) fun a ha q => ?_
  · by_cases hb : b = p
    · subst hb; rw [upd_same] at q ⊢; exact q
    · rw [upd_ne hb] at q ⊢; exact k.sub.same b u q
  · by_cases hb : b = p
    · subst hb; rw [upd_same] at n; cases n
    · rw [upd_ne hb] at q n; exact k.sub.loose b u q n
  · obtain ⟨u, hu, _⟩ := k.trk a ha
    rw [upd_ne (ne_of_none hu hp)]; exact q
theorem sub_cell {G H : Hp} (s : Sub G H) {a : Addr} {o : HO} (g : G a = none) (l : Loose o) : Sub G (upd H a o) := ⟨fun b u q => by
    rw [upd_ne (ne_of_none q g)]; exact s.same b u q, fun b u q n => by
    by_cases hb : b = a
    · subst hb; rw [upd_same] at q; cases q; exact l
    · rw [upd_ne hb] at q; exact s.loose b u q n⟩
/-- a new cell -/
theorem Ok.cellNew (k : Ok K A F H S σ) {p : Addr} {o : HO} {c : Cell} (hp : H p = none) (l : Loose o) (hc : CellOk K (A ++ [p]) F (upd H p o) p c) : Ok K (A ++ [p]) F (upd H p o) { S with os := S.os ++ [some c] } σ := by
  have fp : F p = none := k.sub.none hp
  have np : p ∉ A := fun z => by obtain ⟨u, hu, _⟩ := k.trk p z; rw [hp] at hu; cases hu
  have pp : A <+: A ++ [p] := List.prefix_append _ _
  refine ⟨sub_cell k.sub fp l, k.len, by simp [k.alen], List.nodup_append.mpr ⟨k.nd, by simp, fun a ha b hb => by simp at hb; subst hb; intro z; subst z; exact np ha⟩, fun i r h => ?_, fun j c' h => ?_, fun a h => ?_, k.tab⟩
  · obtain ⟨v, e1, q⟩ := k.rslot i r h
    exact ⟨v, e1, q.mono pp (SameT.refl F) _ _⟩
  · by_cases hj : j < S.os.length
    · have h' : S.os[j]? = some (some c') := by
        have := h
        simp only at this
        rw [List.getElem?_append_left hj] at this; exact this
      obtain ⟨a, e1, f, q⟩ := k.cell j c' h'
      exact ⟨a, pre_at pp e1, f, q.mono pp (SameT.refl F) fun u hu => by rw [upd_ne (ne_of_none hu hp)]; exact hu⟩
    · have e : j = S.os.length := by
        have := (List.getElem?_eq_some_iff.mp h).1
        simp at this
        omega
      subst e
      have h' : some c = some c' := by simpa using h
      cases h'
      exact ⟨p, by rw [k.alen]; simp, fp, hc⟩
  · rcases List.mem_append.mp h with h | h
    · obtain ⟨u, hu, lu⟩ := k.trk a h
      exact ⟨u, by rw [upd_ne (ne_of_none hu hp)]; exact hu, lu⟩
    · simp at h; subst h; exact ⟨o, upd_same, l⟩
theorem idx_nodup {α : Type} {A : List α} (nd : A.Nodup) {i j : Nat} {a : α} (h1 : A[i]? = some a) (h2 : A[j]? = some a) : i = j := by
  obtain ⟨l1, e1⟩ := List.getElem?_eq_some_iff.mp h1
  obtain ⟨l2, e2⟩ := List.getElem?_eq_some_iff.mp h2
  exact (List.getElem_inj nd).mp (e1.trans e2.symm)
/-- a cell written -/
theorem Ok.cellSet (k : Ok K A F H S σ) {j : Nat} {a : Addr} {o : HO} {c c' : Cell} (hj : S.os[j]? = some (some c)) (ha : A[j]? = some a) (l : Loose o) (hc : CellOk K A F (upd H a o) a c') :
    Ok K A F (upd H a o) { S with os := S.os.set j (some c') } σ := by
  obtain ⟨a', e1, fa, _⟩ := k.cell j c hj
  rw [ha] at e1; cases e1
  refine ⟨sub_cell k.sub fa l, k.len, by simp [k.alen], k.nd, k.rslot, fun i d h => ?_, fun b h => ?_, k.tab⟩
  · by_cases hi : j = i
    · subst hi
      have hlt := (List.getElem?_eq_some_iff.mp hj).1
      rw [List.getElem?_set_self hlt] at h
      cases h
      exact ⟨a, ha, fa, hc⟩
    · rw [List.getElem?_set_ne hi] at h
      obtain ⟨b, e1, f, q⟩ := k.cell i d h
      have hb : b ≠ a := fun z => hi (idx_nodup k.nd ha (z ▸ e1))
      exact ⟨b, e1, f, q.mono (List.prefix_refl _) (SameT.refl F) fun u hu => by rw [upd_ne hb]; exact hu⟩
  · by_cases hb : b = a
    · exact ⟨o, by rw [hb, upd_same], l⟩
    · obtain ⟨u, hu, lu⟩ := k.trk b h
      exact ⟨u, by rw [upd_ne hb]; exact hu, lu⟩
/-- a cell is written no more: its object is known for good -/
theorem Ok.sealO (k : Ok K A F H S σ) {j : Nat} {a : Addr} {o : HO} {c : Cell} (hj : S.os[j]? = some (some c)) (ha : A[j]? = some a) (ho : H a = some o) :
    SameT F (upd F a o) ∧ Ok K A (upd F a o) H { S with os := S.os.set j none } σ := by
  obtain ⟨a', e1, fa, _⟩ := k.cell j c hj
  rw [ha] at e1; cases e1
  have sm : SameT F (upd F a o) := same_upd fa
  refine ⟨sm, ⟨⟨fun b u q => ?_, fun b u q n => ?_⟩, k.len, by simp [k.alen], k.nd, fun i r h => ?_, fun i d h => ?_, k.trk, sm.tab k.tab⟩⟩
  · by_cases hb : b = a
    · subst hb; rw [upd_same] at q; cases q; exact ho
    · rw [upd_ne hb] at q; exact k.sub.same b u q
  · by_cases hb : b = a
    · subst hb; rw [upd_same] at n; cases n
    · rw [upd_ne hb] at n; exact k.sub.loose b u q n
  · obtain ⟨v, e1, q⟩ := k.rslot i r h
    exact ⟨v, e1, q.mono (List.prefix_refl _) sm _ _⟩
  · by_cases hi : j = i
    · subst hi
      have hlt := (List.getElem?_eq_some_iff.mp hj).1
      rw [List.getElem?_set_self hlt] at h
      cases h
    · rw [List.getElem?_set_ne hi] at h
      obtain ⟨b, e1, f, q⟩ := k.cell i d h
      have hb : b ≠ a := fun z => hi (idx_nodup k.nd ha (z ▸ e1))
      exact ⟨b, e1, by rw [upd_ne hb]; exact f, q.mono (List.prefix_refl _) sm fun u hu => hu⟩
/-- .. a list of data -/
theorem Ok.seal (k : Ok K A F H S σ) {j : Nat} {ds : List PyData} (hj : S.os[j]? = some (some (.lst ds))) :
    ∃ a F', A[j]? = some a ∧ SameT F F' ∧ Rp K F' (.ref a) (.list ds) ∧ Ok K A F' H { S with os := S.os.set j none } σ ∧ ∀ b, b ≠ a → F' b = F b := by
  obtain ⟨a, ha, fa, vs, hv, r, hz⟩ := k.cell j _ hj
  obtain ⟨sm, k'⟩ := k.sealO hj ha hv
  exact ⟨a, _, ha, sm, .lst upd_same (Rps.mono sm _ _ r) hz, k', fun b hb => upd_ne hb⟩
theorem Ok.setR (k : Ok K A F H S σ) {i : Nat} {r : R} {v : V} (q : Rr K A F v r) : Ok K A F H { S with sl := S.sl.set i (some r) } (σ.set i (some v)) := by
  refine ⟨k.sub, by simp [k.len], k.alen, k.nd, fun n e h => ?_, k.cell, k.trk, k.tab⟩
  by_cases hi : i = n
  · subst hi
    have hlt : i < S.sl.length := by
      have := (List.getElem?_eq_some_iff.mp h).1
      simpa using this
    rw [List.getElem?_set_self hlt] at h
    cases h
    exact ⟨v, by rw [List.getElem?_set_self (by rw [← k.len]; exact hlt)], q⟩
  · rw [List.getElem?_set_ne hi] at h ⊢
    exact k.rslot n e h
theorem Ok.setDat (k : Ok K A F H S σ) {i : Nat} {d : PyData} {v : V} (r : Rp K F v d) : Ok K A F H { S with sl := S.sl.set i (some (.dat d)) } (σ.set i (some v)) := k.setR (.dat r)
theorem Ok.setOwn (k : Ok K A F H S σ) {i j : Nat} {a : Addr} (ha : A[j]? = some a) : Ok K A F H { S with sl := S.sl.set i (some (.own j)) } (σ.set i (some (.ref a))) := k.setR (.own ha)
theorem set_at {α : Type} {l : List (Option α)} {i : Nat} {v : α} (hv : l[i]? = some (some v)) : l.set i (some v) = l := by
  apply List.ext_getElem?
  intro n
  by_cases hi : i = n
  · subst hi
    rw [List.getElem?_set_self (List.getElem?_eq_some_iff.mp hv).1, hv]
  · rw [List.getElem?_set_ne hi]
/-- the slot's thing told otherwise, the value as it was -/
theorem Ok.rAt (k : Ok K A F H S σ) {i : Nat} {r : R} {v : V} (hv : σ[i]? = some (some v)) (q : Rr K A F v r) : Ok K A F H { S with sl := S.sl.set i (some r) } σ := by
  have := k.setR (i := i) q
  rwa [set_at hv] at this
theorem Ok.datAt (k : Ok K A F H S σ) {i : Nat} {d : PyData} {v : V} (hv : σ[i]? = some (some v)) (r : Rp K F v d) : Ok K A F H { S with sl := S.sl.set i (some (.dat d)) } σ := k.rAt hv (.dat r)
end
end Fu

set_option maxHeartbeats 4000000
namespace Fu
open PySem PySem.Spec PyProof.Rows L2
variable [TabsC]

theorem bind_inv {α β : Type} {x : Option α} {f : α → Option β} {b : β} (h : x.bind f = some b) : ∃ a, x = some a ∧ f a = some b := by
  cases x with
  | none => cases h
  | some a => exact ⟨a, rfl, h⟩

/-! ### the judgements: an expression's reading meets a function on states -/
def RdE (K : PySem.W.Frag) (t : TE) (g : M D) : Prop := ∀ A F H S σ d S' (Q : VK), Ok K A F H S σ → g S = some (d, S') →
  (∀ A' F' H' v, A <+: A' → SameT F F' → Ok K A' F' H' S' σ → Rp K F' v d → Q v H') → t σ H Q
def RdT (K : PySem.W.Frag) (t : TT) (g : M Bool) : Prop := ∀ A F H S σ b S' (Q : Bool → Hp → Prop), Ok K A F H S σ → g S = some (b, S') →
  (∀ A' F' H', A <+: A' → SameT F F' → Ok K A' F' H' S' σ → Q b H') → t σ H Q
def RdA (K : PySem.W.Frag) (t : TA) (g : M (List D)) : Prop := ∀ A F H S σ ds S' (Q : List V → Hp → Prop), Ok K A F H S σ → g S = some (ds, S') →
  (∀ A' F' H' vs, A <+: A' → SameT F F' → Ok K A' F' H' S' σ → Rps K F' vs ds → Q vs H') → t σ H Q
structure GE (X : Cx) (e : Expr) (g : M D) : Prop where
  ex : ∃ t, PE X e t ∧ RdE X.K t g
structure GT (X : Cx) (e : Expr) (g : M Bool) : Prop where
  ex : ∃ t, PT X e t ∧ RdT X.K t g
structure GW (X : Cx) (e : Expr) (g : M Bool) : Prop where
  ex : ∃ t, PW X e t ∧ RdT X.K t g
structure GA (X : Cx) (es : List Expr) (g : M (List D)) : Prop where
  ex : ∃ t, PA X es t ∧ RdA X.K t g

/-! ### names and constants -/
def gVar (i : Nat) : M D := fun S => match S.sl[i]? with
  | some (some (.dat d)) => some (d, S)
  | some (some (.own j)) => match S.os[j]? with
    | some (some (.lst ds)) => some (.list ds, ⟨S.sl.set i (some (.dat (.list ds))), S.os.set j none⟩)
    | _ => none
  | _ => none
def gC (d : D) : M D := fun S => some (d, S)
section
variable {X : Cx} {pos : Pos}
theorem rd_var {K : PySem.W.Frag} (i : Nat) : RdE K (tVar i) (gVar i) := by
  intro A F H S σ d S' Q k h post
  unfold gVar at h
  cases e : S.sl[i]? with
  | none => rw [e] at h; cases h
  | some r =>
    cases r with
    | none => rw [e] at h; cases h
    | some r =>
      cases r with
      | dat d' =>
        rw [e] at h; cases h
        obtain ⟨v, ev, r⟩ := k.slot i _ e
        exact ⟨v, ev, post A F H v (List.prefix_refl _) (SameT.refl F) k r⟩
      | scr ns => rw [e] at h; cases h
      | tup rs => rw [e] at h; cases h
      | exc c => rw [e] at h; cases h
      | own j =>
        rw [e] at h
        simp only at h
        cases e2 : S.os[j]? with
        | none => rw [e2] at h; cases h
        | some c =>
          cases c with
          | none => rw [e2] at h; cases h
          | some c =>
            cases c with
            | lst ds =>
              rw [e2] at h; cases h
              obtain ⟨a, ha, ev⟩ := k.oslot i j e
              obtain ⟨a', F', ha', sm, r, k', _⟩ := k.seal e2
              rw [ha] at ha'; cases ha'
              exact ⟨_, ev, post A F' H _ (List.prefix_refl _) sm (k'.datAt ev r) r⟩
            | lR _ => rw [e2] at h; cases h
            | dR _ => rw [e2] at h; cases h
            | tR _ => rw [e2] at h; cases h
theorem e_var (i : Nat) {x : Str} (hN : X.N[i]? = some x := by rfl) (hv : Vis X.env.scope x := by first | exact Or.inl rfl | exact Or.inr (Or.inl rfl) | exact Or.inr (Or.inr rfl)) (hd : (x == ("__debug__" : Str)) = false := by decide)
    (hcd : (x == ("__classdict__" : Str)) = false := by decide) : GE X (.Name x pos) (gVar i) := ⟨_, pe_var hN hv hd hcd, rd_var i⟩
theorem rd_c {K : PySem.W.Frag} {v : V} {d : D} (r : ∀ F, Rp K F v d) : RdE K (tC v) (gC d) := by
  intro A F H S σ d' S' Q k h post
  cases h
  exact post A F H v (List.prefix_refl _) (SameT.refl F) k (r F)
theorem e_int {i : Int} {j} : GE X (.Constant (.int i) j pos) (gC (.int i)) := ⟨_, pe_int, rd_c fun _ => .int i⟩
theorem e_bl {b : Bool} {j} : GE X (.Constant (.bool b) j pos) (gC (.bool b)) := ⟨_, pe_bl, rd_c fun _ => .bl b⟩
theorem e_non {j} : GE X (.Constant .none j pos) (gC .none) := ⟨_, pe_non, rd_c fun _ => .non⟩
theorem e_str {x : Str} {j} (hz : x.length ≤ sizeLine := by decide) : GE X (.Constant (.str x) j pos) (gC (.str x)) := ⟨_, pe_str, rd_c fun _ => .str hz⟩
/-- a module's constant -/
theorem e_gint {x : Str} {i : Int} {t : Tok} (hm : X.mg x = some (.int i t)) (hg : Gl X x := by rfl) (hd : (x == ("__debug__" : Str)) = false := by decide) : GE X (.Name x pos) (gC (.int i)) := ⟨_, pe_glob (v := .int i) hg hm ⟨t, rfl⟩ hd, rd_c fun _ => .int i⟩
end

/-! ### operators by values -/
def RdOp (K : PySem.W.Frag) (r : R2) (f : D → D → Option D) : Prop := ∀ A F H S σ x y d e z Q, Ok K A F H S σ → Rp K F x d → Rp K F y e → f d e = some z →
  (∀ F' H' v, SameT F F' → Ok K A F' H' S σ → Rp K F' v z → Q v H') → r x y H Q
def gBin (f : D → D → Option D) (ga gb : M D) : M D := fun S => (ga S).bind fun p => (gb p.2).bind fun q => (f p.1 q.1).bind fun z => some (z, q.2)
section
variable {X : Cx} {pos : Pos} {a b : Expr} {ga gb : M D}
theorem rd_op {K : PySem.W.Frag} {r : R2} {f : D → D → Option D} {ta tb : TE} (hf : RdOp K r f) (ra : RdE K ta ga) (rb : RdE K tb gb) : RdE K (tOp r ta tb) (gBin f ga gb) := by
  intro A F H S σ d S' Q k h post
  obtain ⟨⟨x, S1⟩, h1, h⟩ := bind_inv h
  obtain ⟨⟨y, S2⟩, h2, h⟩ := bind_inv h
  obtain ⟨z, h3, h⟩ := bind_inv h
  cases h
  refine ra A F H S σ x S1 _ k h1 fun A1 F1 H1 v1 p1 s1 k1 r1 => rb A1 F1 H1 S1 σ y S2 _ k1 h2 fun A2 F2 H2 v2 p2 s2 k2 r2 => ?_
  exact hf A2 F2 H2 _ σ v1 v2 x y _ Q k2 (r1.mono s2 _ _) r2 h3 fun F3 H3 v s3 k3 r3 => post A2 F3 H3 v (p1.trans p2) (s1.trans (s2.trans s3)) k3 r3
theorem e_op {op : Operator} {r : R2} {f : D → D → Option D} (ho : OpR X (binaryOp op) r) (hf : RdOp X.K r f) (ha : GE X a ga) (hb : GE X b gb) : GE X (.BinOp a op b pos) (gBin f ga gb) :=
  let ⟨_, pa, ra⟩ := ha.ex; let ⟨_, pb, rb⟩ := hb.ex; ⟨_, pe_op ho pa pb, rd_op hf ra rb⟩
theorem e_cmpR {op : CmpOp} {r : R2} {f : D → D → Option D} (ho : OpR X (compareOp op) r) (hf : RdOp X.K r f) (hm : behindInMarks op b = false) (ha : GE X a ga) (hb : GE X b gb) : GE X (.Compare a [op] [b] pos) (gBin f ga gb) :=
  let ⟨_, pa, ra⟩ := ha.ex; let ⟨_, pb, rb⟩ := hb.ex; ⟨_, pe_cmpR ho pa pb hm, rd_op hf ra rb⟩
def gB (g : M D) : M Bool := fun S => (g S).bind fun p => match p.1 with
  | .bool b => some (b, p.2)
  | _ => none
theorem rd_test {K : PySem.W.Frag} {t : TE} {g : M D} (h : RdE K t g) : RdT K (tB t) (gB g) := by
  intro A F H S σ b S' Q k e post
  obtain ⟨⟨d, S1⟩, h1, e⟩ := bind_inv e
  refine h A F H S σ d S1 _ k h1 fun A1 F1 H1 v p1 s1 k1 r1 => ?_
  cases d <;> simp only at e <;> cases e
  cases r1
  exact ⟨_, rfl, post A1 F1 H1 p1 s1 k1⟩
theorem t_cmpR {op : CmpOp} {r : R2} {f : D → D → Option D} (ho : OpR X (compareOp op) r) (hf : RdOp X.K r f) (hm : behindInMarks op b = false) (ha : GE X a ga) (hb : GE X b gb) : GT X (.Compare a [op] [b] pos) (gB (gBin f ga gb)) :=
  let ⟨_, pa, ra⟩ := ha.ex; let ⟨_, pb, rb⟩ := hb.ex; ⟨_, pt_cmpR ho pa pb hm, rd_test (rd_op hf ra rb)⟩
theorem t_val {e : Expr} {g : M D} (h : GE X e g) (he : ∀ whole, isTrue e X.env whole = (do let v ← whole; standAt e.pos; holding [v] (truthy v)) := by intro _; rfl) : GT X e (gB g) :=
  let ⟨_, pe, re⟩ := h.ex; ⟨_, pt_val pe he, rd_test re⟩

/-! ### the operators -/
def dAdd : D → D → Option D
  | .int i, .int j => some (.int (i + j))
  | .str x, .str y => if x.length + y.length ≤ sizeLine then some (.str (x ++ y)) else none
  | .list xs, .list ys => if xs.length + ys.length ≤ sizeLine then some (.list (xs ++ ys)) else none
  | .tuple xs, .tuple ys => if xs.length + ys.length ≤ sizeLine then some (.tuple (xs ++ ys)) else none
  | _, _ => none

end

section
variable {K : PySem.W.Frag}
theorem rps_upd {F : Hp} {p : Addr} {o : HO} {vs : List V} {ds : List D} (h : F p = none) (r : Rps K F vs ds) : Rps K (upd F p o) vs ds := Rps.mono (same_upd h) _ _ r
/-- a new list, a new tuple, known for good -/
theorem Ok.newList {A : List Addr} {F H : Hp} {S : Sx} {σ : L2.St} (k : Ok K A F H S σ) {p : Addr} {vs : List V} {ds : List D} (hp : H p = none) (r : Rps K F vs ds) (hz : ds.length ≤ sizeLine) :
    SameT F (upd F p (.lst vs)) ∧ Ok K A (upd F p (.lst vs)) (upd H p (.lst vs)) S σ ∧ Rp K (upd F p (.lst vs)) (.ref p) (.list ds) :=
  have fp := k.sub.none hp
  ⟨same_upd fp, k.laid hp, .lst upd_same (rps_upd fp r) hz⟩
theorem Ok.newTup {A : List Addr} {F H : Hp} {S : Sx} {σ : L2.St} (k : Ok K A F H S σ) {p : Addr} {vs : List V} {ds : List D} (hp : H p = none) (r : Rps K F vs ds) (hz : ds.length ≤ sizeLine) :
    SameT F (upd F p (.tup vs)) ∧ Ok K A (upd F p (.tup vs)) (upd H p (.tup vs)) S σ ∧ Rp K (upd F p (.tup vs)) (.ref p) (.tuple ds) :=
  have fp := k.sub.none hp
  ⟨same_upd fp, k.laid hp, .tup upd_same (rps_upd fp r) hz⟩
theorem rp_list_inv {F : Hp} {v : V} {ds : List D} (h : Rp K F v (.list ds)) : ∃ a xs, v = .ref a ∧ F a = some (.lst xs) ∧ Rps K F xs ds ∧ ds.length ≤ sizeLine := by
  cases h with
  | lst h1 h2 h3 => exact ⟨_, _, rfl, h1, h2, h3⟩
theorem rp_tup_inv {F : Hp} {v : V} {ds : List D} (h : Rp K F v (.tuple ds)) : ∃ a xs, v = .ref a ∧ SqT K F a xs ∧ Rps K F xs ds ∧ ds.length ≤ sizeLine := by
  cases h with
  | tup h1 h2 h3 => exact ⟨_, _, rfl, .inl (.inl h1), h2, h3⟩
theorem rp_str_inv {F : Hp} {v : V} {x : Str} (h : Rp K F v (.str x)) : v = .str x ∧ x.length ≤ sizeLine := by
  cases h with
  | str h => exact ⟨rfl, h⟩
theorem rp_int_inv {F : Hp} {v : V} {i : Int} (h : Rp K F v (.int i)) : v = .int i := by cases h; rfl
theorem rp_bool_inv {F : Hp} {v : V} {i : Bool} (h : Rp K F v (.bool i)) : v = .bl i := by cases h; rfl

def rAddAny (K : PySem.W.Frag) : R2 := fun x y H Q => (rI0 (fun i j => .int (i + j)) x y H Q) ∨ (∃ i j, x = .str i ∧ y = .str j ∧ i.length + j.length ≤ sizeLine ∧ Q (.str (i ++ j)) H) ∨ rCat x y H Q ∨ rCatA K x y H Q
theorem op_addAny {X : Cx} : OpR X (binaryOp .Add) (rAddAny X.K) := OpR.or op_add (OpR.or op_add_str (OpR.or op_cat op_catA))
theorem str_app_len (x y : Str) : (x ++ y).length = x.length + y.length := by
  show (Str.append x y).length = _
  simp [Str.append, Str.length]
theorem rd_add : RdOp K (rAddAny K) dAdd := by
  intro A F H S σ x y d e z Q k rx ry h post
  have id1 : ∀ v, Rp K F v z → Q v H := fun v r => post F H v (SameT.refl F) k r
  cases d <;> cases e <;> simp only [dAdd] at h <;> try cases h
  · cases rp_int_inv rx; cases rp_int_inv ry
    exact .inl ⟨_, _, rfl, rfl, id1 _ (.int _)⟩
  · split at h
    · rename_i hz
      cases h
      obtain ⟨rfl, _⟩ := rp_str_inv rx
      obtain ⟨rfl, _⟩ := rp_str_inv ry
      exact .inr (.inl ⟨_, _, rfl, rfl, hz, id1 _ (.str (by rw [str_app_len]; exact hz))⟩)
    · cases h
  · split at h
    · rename_i hz
      cases h
      obtain ⟨a, xs, rfl, h1, h2, _⟩ := rp_list_inv rx
      obtain ⟨b, ys, rfl, g1, g2, _⟩ := rp_list_inv ry
      refine .inr (.inr (.inl ⟨a, b, xs, ys, rfl, rfl, k.sub.same _ _ h1, k.sub.same _ _ g1, by rw [h2.length, g2.length]; exact hz, fun p hp => ?_⟩))
      obtain ⟨s1, k1, r1⟩ := k.newList hp (h2.append g2) (by rw [List.length_append]; exact hz)
      exact post _ _ _ s1 k1 r1
    · cases h
  · split at h
    · rename_i hz
      cases h
      obtain ⟨a, xs, rfl, h1, h2, _⟩ := rp_tup_inv rx
      obtain ⟨b, ys, rfl, g1, g2, _⟩ := rp_tup_inv ry
      refine .inr (.inr (.inr ⟨a, b, xs, ys, rfl, rfl, sqT_same k.sub.same.t h1, sqT_same k.sub.same.t g1, by rw [h2.length, g2.length]; exact hz, fun e => ?_, fun e1 e2 => ?_, fun e1 e2 p hp => ?_⟩))
      · subst e
        cases h2
        exact id1 _ (by simpa using ry)
      · subst e2
        cases g2
        exact id1 _ (by simpa using rx)
      · obtain ⟨s1, k1, r1⟩ := k.newTup hp (h2.append g2) (by rw [List.length_append]; exact hz)
        exact post _ _ _ s1 k1 r1
    · cases h

/-! ### other operators on ints -/
def dSub : D → D → Option D
  | .int i, .int j => some (.int (i - j))
  | _, _ => none
theorem rd_sub : RdOp K (rI0 fun i j => .int (i - j)) dSub := by
  intro A F H S σ x y d e z Q k rx ry h post
  cases d <;> cases e <;> simp only [dSub] at h <;> cases h
  cases rp_int_inv rx; cases rp_int_inv ry
  exact ⟨_, _, rfl, rfl, post F H _ (SameT.refl F) k (.int _)⟩
end
end Fu

set_option maxHeartbeats 4000000
namespace Fu
open PySem PySem.Spec PyProof.Rows L2
variable [TabsC]
section
variable {K : PySem.W.Frag}
/-! ### products, quotients, rests, powers -/
instance (i j : Int) : Decidable (CMulW i j) := inferInstanceAs (Decidable (_ < _))
instance (i j : Int) : Decidable (CDivW i j) := inferInstanceAs (Decidable (_ ∧ _))
instance (i j : Int) : Decidable (CPow i j) := inferInstanceAs (Decidable (_ ∧ _ ∧ _))
def dMul : D → D → Option D
  | .int i, .int j => if CMulW i j then some (.int (i * j)) else none
  | .list xs, .int k => if -(2 ^ 63) ≤ k ∧ k < 2 ^ 63 ∧ xs.length * k.toNat ≤ sizeLine then some (.list (List.replicate k.toNat xs).flatten) else none
  | _, _ => none
def rMulAny : R2 := fun x y H Q => rI CMulW (fun i j => .int (i * j)) x y H Q ∨ rRep x y H Q
theorem op_mulAny {X : Cx} : OpR X (binaryOp .Mult) rMulAny := OpR.or op_mulW op_rep
theorem rd_mul : RdOp K rMulAny dMul := by
  intro A F H S σ x y d e z Q k rx ry h post
  cases d <;> cases e <;> simp only [dMul] at h <;> try cases h
  · split at h
    · rename_i hz
      cases h
      cases rp_int_inv rx; cases rp_int_inv ry
      exact .inl ⟨_, _, rfl, rfl, hz, post F H _ (SameT.refl F) k (.int _)⟩
    · cases h
  · split at h
    · rename_i hz
      cases h
      obtain ⟨a, xs, rfl, h1, h2, _⟩ := rp_list_inv rx
      cases rp_int_inv ry
      refine .inr ⟨a, _, xs, rfl, rfl, k.sub.same _ _ h1, hz.1, hz.2.1, by rw [h2.length]; exact hz.2.2, fun p hp => ?_⟩
      obtain ⟨s1, k1, r1⟩ := k.newList hp (h2.rep _) (by rw [PyProof.Rows.lm_len_rep_flat, Nat.mul_comm]; exact hz.2.2)
      exact post _ _ _ s1 k1 r1
    · cases h
def dDiv : D → D → Option D
  | .int i, .int j => if CDivW i j then some (.int (i / j)) else none
  | _, _ => none
def dMod : D → D → Option D
  | .int i, .int j => if 0 < j then some (.int (i % j)) else none
  | _, _ => none
def dPow : D → D → Option D
  | .int i, .int j => if CPow i j then some (.int (i ^ j.toNat)) else none
  | _, _ => none
theorem rd_ii {C : Int → Int → Prop} [∀ i j, Decidable (C i j)] {f : Int → Int → Int} {g : D → D → Option D} (hg : ∀ d e z, g d e = some z → ∃ i j, d = .int i ∧ e = .int j ∧ C i j ∧ z = .int (f i j)) : RdOp K (rI C fun i j => .int (f i j)) g := by
  intro A F H S σ x y d e z Q k rx ry h post
  obtain ⟨i, j, rfl, rfl, c, rfl⟩ := hg d e z h
  cases rp_int_inv rx; cases rp_int_inv ry
  exact ⟨_, _, rfl, rfl, c, post F H _ (SameT.refl F) k (.int _)⟩
theorem rd_div : RdOp K (rI CDivW fun i j => .int (i / j)) dDiv := rd_ii fun d e z h => by
  cases d <;> cases e <;> simp only [dDiv] at h <;> try cases h
  split at h
  · cases h; exact ⟨_, _, rfl, rfl, by assumption, rfl⟩
  · cases h
theorem rd_mod : RdOp K (rI (fun _ j => 0 < j) fun i j => .int (i % j)) dMod := rd_ii fun d e z h => by
  cases d <;> cases e <;> simp only [dMod] at h <;> try cases h
  split at h
  · cases h; exact ⟨_, _, rfl, rfl, by assumption, rfl⟩
  · cases h
theorem rd_pow : RdOp K (rI CPow fun i j => .int (i ^ j.toNat)) dPow := rd_ii fun d e z h => by
  cases d <;> cases e <;> simp only [dPow] at h <;> try cases h
  split at h
  · cases h; exact ⟨_, _, rfl, rfl, by assumption, rfl⟩
  · cases h

/-! ### comparisons -/
def dCmp (p : Int → Int → Bool) : D → D → Option D
  | .int i, .int j => some (.bool (p i j))
  | _, _ => none
theorem rd_cmp (p : Int → Int → Bool) : RdOp K (rI0 fun i j => .bl (p i j)) (dCmp p) := by
  intro A F H S σ x y d e z Q k rx ry h post
  cases d <;> cases e <;> simp only [dCmp] at h <;> cases h
  cases rp_int_inv rx; cases rp_int_inv ry
  exact ⟨_, _, rfl, rfl, post F H _ (SameT.refl F) k (.bl _)⟩
def strEq : D → D → Option Bool
  | .str x, .str y => some (decide (x = y))
  | _, _ => none
def dEq (d e : D) : Option D := if SeqAt.shaped d = true ∧ SeqAt.shaped e = true then some (.bool (PyData.eqv d e)) else (strEq d e).map .bool
def dNe (d e : D) : Option D := if SeqAt.shaped d = true ∧ SeqAt.shaped e = true then some (.bool (!PyData.eqv d e)) else (strEq d e).map fun b => .bool (!b)
def rEqAny (K : PySem.W.Frag) : R2 := fun x y H Q => rEqD K x y H Q ∨ rEq x y H Q
def rNeAny (K : PySem.W.Frag) : R2 := fun x y H Q => rNeD K x y H Q ∨ rNe x y H Q
theorem op_eqAny {X : Cx} (hu : X.A.units + 64 < cLine) : OpR X (compareOp .Eq) (rEqAny X.K) := OpR.or (op_eqD hu) op_eq
theorem op_neAny {X : Cx} (hu : X.A.units + 64 < cLine) : OpR X (compareOp .NotEq) (rNeAny X.K) := OpR.or (op_neD hu) op_ne
theorem strEq_inv {d e : D} {b : Bool} (h : strEq d e = some b) : ∃ x y, d = .str x ∧ e = .str y ∧ b = decide (x = y) := by
  unfold strEq at h
  split at h
  · cases h; exact ⟨_, _, rfl, rfl, rfl⟩
  · cases h
theorem strV_eq (x y : Str) : decide (V.str x = V.str y) = decide (x = y) := by
  by_cases h : x = y
  · subst h; simp
  · rw [decide_eq_false h, decide_eq_false (fun z => h (by injection z))]
theorem Rp.dpH {F H : Hp} {v : V} {d : D} (s : SameT F H) (c : SeqAt.shaped d = true) (r : Rp K F v d) : Dp K H v d := Rp.dp _ _ (SeqAt.canLay_of_shaped c) (r.mono s _ _)
theorem rd_eq : RdOp K (rEqAny K) dEq := by
  intro A F H S σ x y d e z Q k rx ry h post
  unfold dEq at h
  split at h
  · rename_i c
    cases h
    exact .inl ⟨d, e, rx.dpH k.sub.same.t c.1, ry.dpH k.sub.same.t c.2, c.1, c.2, post F H _ (SameT.refl F) k (.bl _)⟩
  · obtain ⟨b, h1, rfl⟩ := Option.map_eq_some_iff.mp h
    obtain ⟨u, v, rfl, rfl, rfl⟩ := strEq_inv h1
    obtain ⟨rfl, _⟩ := rp_str_inv rx
    obtain ⟨rfl, _⟩ := rp_str_inv ry
    exact .inr ⟨rfl, post F H _ (SameT.refl F) k (by rw [strV_eq]; exact .bl _)⟩
theorem rd_ne : RdOp K (rNeAny K) dNe := by
  intro A F H S σ x y d e z Q k rx ry h post
  unfold dNe at h
  split at h
  · rename_i c
    cases h
    exact .inl ⟨d, e, rx.dpH k.sub.same.t c.1, ry.dpH k.sub.same.t c.2, c.1, c.2, post F H _ (SameT.refl F) k (.bl _)⟩
  · obtain ⟨b, h1, rfl⟩ := Option.map_eq_some_iff.mp h
    obtain ⟨u, v, rfl, rfl, rfl⟩ := strEq_inv h1
    obtain ⟨rfl, _⟩ := rp_str_inv rx
    obtain ⟨rfl, _⟩ := rp_str_inv ry
    exact .inr ⟨rfl, post F H _ (SameT.refl F) k (by rw [strV_eq]; exact .bl _)⟩
/-- in a list, in a tuple, in a text -/
def dIn : D → D → Option D
  | .str x, .str y => some (.bool (!(Builtin.Str.occurrences y x 0 y.length 1).isEmpty))
  | d, .list ds => if SeqAt.shaped d = true ∧ SeqAt.shaped (.list ds) = true then some (.bool (ds.any fun z => PyData.eqv z d)) else none
  | d, .tuple ds => if SeqAt.shaped d = true ∧ SeqAt.shaped (.tuple ds) = true then some (.bool (ds.any fun z => PyData.eqv z d)) else none
  | _, _ => none
theorem rp_ne_non {F : Hp} {v : V} {d : D} (r : Rp K F v d) (h : d = .none → False) : decide (v = V.non) = false := by
  cases r <;> first | exact (h rfl).elim | simp
end

/-! ### the expressions' rules by operators -/
section
variable {X : Cx} {pos : Pos} {a b c : Expr} {ga gb gc : M D}
theorem e_add (ha : GE X a ga) (hb : GE X b gb) : GE X (.BinOp a .Add b pos) (gBin dAdd ga gb) := e_op op_addAny rd_add ha hb
theorem e_sub (ha : GE X a ga) (hb : GE X b gb) : GE X (.BinOp a .Sub b pos) (gBin dSub ga gb) := e_op op_sub rd_sub ha hb
theorem e_mul (ha : GE X a ga) (hb : GE X b gb) : GE X (.BinOp a .Mult b pos) (gBin dMul ga gb) := e_op op_mulAny rd_mul ha hb
theorem e_div (ha : GE X a ga) (hb : GE X b gb) : GE X (.BinOp a .FloorDiv b pos) (gBin dDiv ga gb) := e_op op_fdivW rd_div ha hb
theorem e_mod (ha : GE X a ga) (hb : GE X b gb) : GE X (.BinOp a .Mod b pos) (gBin dMod ga gb) := e_op op_mod rd_mod ha hb
theorem e_pow (ha : GE X a ga) (hb : GE X b gb) : GE X (.BinOp a .Pow b pos) (gBin dPow ga gb) := e_op op_pow rd_pow ha hb
abbrev dLt := dCmp fun i j => decide (i < j)
abbrev dGt := dCmp fun i j => decide (j < i)
abbrev dGe := dCmp fun i j => decide (j ≤ i)
theorem e_lt (ha : GE X a ga) (hb : GE X b gb) : GE X (.Compare a [.Lt] [b] pos) (gBin dLt ga gb) := e_cmpR op_lt (rd_cmp _) (nomark _) ha hb
theorem e_gt (ha : GE X a ga) (hb : GE X b gb) : GE X (.Compare a [.Gt] [b] pos) (gBin dGt ga gb) := e_cmpR op_gt (rd_cmp _) (nomark _) ha hb
theorem e_ge (ha : GE X a ga) (hb : GE X b gb) : GE X (.Compare a [.GtE] [b] pos) (gBin dGe ga gb) := e_cmpR op_ge (rd_cmp _) (nomark _) ha hb
theorem e_eq (hu : X.A.units + 64 < cLine) (ha : GE X a ga) (hb : GE X b gb) : GE X (.Compare a [.Eq] [b] pos) (gBin dEq ga gb) := e_cmpR (op_eqAny hu) rd_eq (nomark _) ha hb
theorem t_ge (ha : GE X a ga) (hb : GE X b gb) : GT X (.Compare a [.GtE] [b] pos) (gB (gBin dGe ga gb)) := t_cmpR op_ge (rd_cmp _) (nomark _) ha hb
theorem t_eq (hu : X.A.units + 64 < cLine) (ha : GE X a ga) (hb : GE X b gb) : GT X (.Compare a [.Eq] [b] pos) (gB (gBin dEq ga gb)) := t_cmpR (op_eqAny hu) rd_eq (nomark _) ha hb
theorem t_ne (hu : X.A.units + 64 < cLine) (ha : GE X a ga) (hb : GE X b gb) : GT X (.Compare a [.NotEq] [b] pos) (gB (gBin dNe ga gb)) := t_cmpR (op_neAny hu) rd_ne (nomark _) ha hb
/-! ### and, or, not, if -/
def gAnd (g h : M Bool) : M Bool := fun S => (g S).bind fun p => if p.1 = true then h p.2 else some (false, p.2)
def gOr (g h : M Bool) : M Bool := fun S => (g S).bind fun p => if p.1 = true then some (true, p.2) else h p.2
def gNot (g : M Bool) : M Bool := fun S => (g S).bind fun p => some (!p.1, p.2)
def gIf (t : M Bool) (g h : M D) : M D := fun S => (t S).bind fun p => if p.1 = true then g p.2 else h p.2
variable {rest : List Expr} {g h : M Bool}
theorem w_and1 (ha : GT X a g) : GW X (.BoolOp .And [a] pos) g := let ⟨_, pa, ra⟩ := ha.ex; ⟨_, pw_and1 pa, ra⟩
theorem w_or1 (ha : GT X a g) : GW X (.BoolOp .Or [a] pos) g := let ⟨_, pa, ra⟩ := ha.ex; ⟨_, pw_or1 pa, ra⟩
theorem rd_and {K : PySem.W.Frag} {t u : TT} (ha : RdT K t g) (hb : RdT K u h) : RdT K (tAnd t u) (gAnd g h) := by
  intro A F H S σ d S' Q k e post
  obtain ⟨⟨x, S1⟩, h1, e⟩ := bind_inv e
  refine ha A F H S σ x S1 _ k h1 fun A1 F1 H1 p1 s1 k1 => ?_
  cases x with
  | true => exact hb A1 F1 H1 S1 σ d S' Q k1 e fun A2 F2 H2 p2 s2 k2 => post A2 F2 H2 (p1.trans p2) (s1.trans s2) k2
  | false =>
    cases e
    exact post A1 F1 H1 p1 s1 k1
theorem rd_or {K : PySem.W.Frag} {t u : TT} (ha : RdT K t g) (hb : RdT K u h) : RdT K (tOr t u) (gOr g h) := by
  intro A F H S σ d S' Q k e post
  obtain ⟨⟨x, S1⟩, h1, e⟩ := bind_inv e
  refine ha A F H S σ x S1 _ k h1 fun A1 F1 H1 p1 s1 k1 => ?_
  cases x with
  | false => exact hb A1 F1 H1 S1 σ d S' Q k1 e fun A2 F2 H2 p2 s2 k2 => post A2 F2 H2 (p1.trans p2) (s1.trans s2) k2
  | true =>
    cases e
    exact post A1 F1 H1 p1 s1 k1
theorem w_and (ha : GT X a g) (hb : GW X (.BoolOp .And (b :: rest) pos) h) : GW X (.BoolOp .And (a :: b :: rest) pos) (gAnd g h) :=
  let ⟨_, pa, ra⟩ := ha.ex; let ⟨_, pb, rb⟩ := hb.ex; ⟨_, pw_and pa pb, rd_and ra rb⟩
theorem w_or (ha : GT X a g) (hb : GW X (.BoolOp .Or (b :: rest) pos) h) : GW X (.BoolOp .Or (a :: b :: rest) pos) (gOr g h) :=
  let ⟨_, pa, ra⟩ := ha.ex; let ⟨_, pb, rb⟩ := hb.ex; ⟨_, pw_or pa pb, rd_or ra rb⟩
theorem t_w {e : Expr} (hw : GW X e g) : GT X e g := let ⟨_, pa, ra⟩ := hw.ex; ⟨_, pa.pt, ra⟩
theorem t_not (ha : GT X a g) : GT X (.UnaryOp .Not a pos) (gNot g) := by
  obtain ⟨t, pa, ra⟩ := ha.ex
  refine ⟨_, pt_not pa, fun A F H S σ d S' Q k e post => ?_⟩
  obtain ⟨⟨x, S1⟩, h1, e⟩ := bind_inv e
  cases e
  exact ra A F H S σ x _ _ k h1 post
/-- as values -/
def gAndV (g h : M D) : M D := fun S => (g S).bind fun p => match p.1 with
  | .bool true => h p.2
  | .bool false => some (.bool false, p.2)
  | _ => none
def gOrV (g h : M D) : M D := fun S => (g S).bind fun p => match p.1 with
  | .bool true => some (.bool true, p.2)
  | .bool false => h p.2
  | _ => none
def gNotV (g : M D) : M D := fun S => (g S).bind fun p => match p.1 with
  | .bool b => some (.bool (!b), p.2)
  | _ => none
theorem e_one {op} (ha : GE X a ga) : GE X (.BoolOp op [a] pos) ga := let ⟨_, pa, ra⟩ := ha.ex; ⟨_, pe_one pa, ra⟩
theorem e_and (ha : GE X a ga) (hb : GE X (.BoolOp .And (b :: rest) pos) gb) : GE X (.BoolOp .And (a :: b :: rest) pos) (gAndV ga gb) := by
  obtain ⟨t, pa, ra⟩ := ha.ex
  obtain ⟨u, pb, rb⟩ := hb.ex
  refine ⟨_, pe_and pa pb, fun A F H S σ d S' Q k e post => ?_⟩
  obtain ⟨⟨x, S1⟩, h1, e⟩ := bind_inv e
  refine ra A F H S σ x S1 _ k h1 fun A1 F1 H1 v p1 s1 k1 r1 => ?_
  cases x <;> simp only at e <;> try cases e
  rename_i y
  cases rp_bool_inv r1
  refine ⟨y, rfl, ?_⟩
  cases y with
  | true => exact rb A1 F1 H1 S1 σ d S' Q k1 e fun A2 F2 H2 v p2 s2 k2 => post A2 F2 H2 v (p1.trans p2) (s1.trans s2) k2
  | false =>
    cases e
    exact post A1 F1 H1 _ p1 s1 k1 (.bl _)
theorem e_not (ha : GE X a ga) : GE X (.UnaryOp .Not a pos) (gNotV ga) := by
  obtain ⟨t, pa, ra⟩ := ha.ex
  refine ⟨_, pe_not pa, fun A F H S σ d S' Q k e post => ?_⟩
  obtain ⟨⟨x, S1⟩, h1, e⟩ := bind_inv e
  refine ra A F H S σ x S1 _ k h1 fun A1 F1 H1 v p1 s1 k1 r1 => ?_
  cases x <;> simp only at e <;> try cases e
  cases rp_bool_inv r1
  exact ⟨_, rfl, post A1 F1 H1 _ p1 s1 k1 (.bl _)⟩
theorem e_if (hc : GT X c g) (ha : GE X a ga) (hb : GE X b gb) : GE X (.IfExp c a b pos) (gIf g ga gb) := by
  obtain ⟨t, pc, rc⟩ := hc.ex
  obtain ⟨_, pa, ra⟩ := ha.ex
  obtain ⟨_, pb, rb⟩ := hb.ex
  refine ⟨_, pe_ifExp pc pa pb, fun A F H S σ d S' Q k e post => ?_⟩
  obtain ⟨⟨x, S1⟩, h1, e⟩ := bind_inv e
  refine rc A F H S σ x S1 _ k h1 fun A1 F1 H1 p1 s1 k1 => ?_
  cases x with
  | true => exact ra A1 F1 H1 S1 σ d S' Q k1 e fun A2 F2 H2 v p2 s2 k2 => post A2 F2 H2 v (p1.trans p2) (s1.trans s2) k2
  | false => exact rb A1 F1 H1 S1 σ d S' Q k1 e fun A2 F2 H2 v p2 s2 k2 => post A2 F2 H2 v (p1.trans p2) (s1.trans s2) k2
def gUn (f : D → Option D) (g : M D) : M D := fun S => (g S).bind fun p => (f p.1).bind fun z => some (z, p.2)
def dNeg : D → Option D
  | .int i => some (.int (-i))
  | _ => none
theorem e_neg (ha : GE X a ga) : GE X (.UnaryOp .USub a pos) (gUn dNeg ga) := by
  obtain ⟨t, pa, ra⟩ := ha.ex
  refine ⟨_, pe_un un_neg pa, fun A F H S σ d S' Q k e post => ?_⟩
  obtain ⟨⟨x, S1⟩, h1, e⟩ := bind_inv e
  obtain ⟨z, h2, e⟩ := bind_inv e
  cases e
  refine ra A F H S σ x _ _ k h1 fun A1 F1 H1 v p1 s1 k1 r1 => ?_
  cases x <;> simp only [dNeg] at h2 <;> cases h2
  cases rp_int_inv r1
  exact ⟨_, rfl, post A1 F1 H1 _ p1 s1 k1 (.int _)⟩

/-! ### arguments, displays -/
def gNil : M (List D) := fun S => some ([], S)
def gCons (g : M D) (gs : M (List D)) : M (List D) := fun S => (g S).bind fun p => (gs p.2).bind fun q => some (p.1 :: q.1, q.2)
variable {e : Expr} {es : List Expr} {ge : M D} {gs : M (List D)}
theorem a_nil : GA X [] gNil := ⟨_, pa_nil, fun A F H S σ d S' Q k e post => by cases e; exact post A F H _ (List.prefix_refl _) (SameT.refl F) k .nil⟩
theorem a_cons (ha : GE X e ge) (hs : GA X es gs) (hst : starEach (e :: es) X.env = (false, eval e X.env) :: starEach es X.env := by rfl) : GA X (e :: es) (gCons ge gs) := by
  obtain ⟨t, pa, ra⟩ := ha.ex
  obtain ⟨u, pb, rb⟩ := hs.ex
  refine ⟨_, pa_cons pa pb hst, fun A F H S σ d S' Q k e post => ?_⟩
  obtain ⟨⟨x, S1⟩, h1, e⟩ := bind_inv e
  obtain ⟨⟨y, S2⟩, h2, e⟩ := bind_inv e
  cases e
  refine ra A F H S σ x S1 _ k h1 fun A1 F1 H1 v p1 s1 k1 r1 => rb A1 F1 H1 S1 σ y S2 _ k1 h2 fun A2 F2 H2 vs p2 s2 k2 r2 => ?_
  exact post A2 F2 H2 _ (p1.trans p2) (s1.trans s2) k2 (.cons (r1.mono s2 _ _) r2)
def gTup (g : M (List D)) : M D := fun S => (g S).bind fun p => if p.1.length ≤ sizeLine then some (.tuple p.1, p.2) else none
def gLst (g : M (List D)) : M D := fun S => (g S).bind fun p => if p.1.length ≤ sizeLine then some (.list p.1, p.2) else none
theorem e_tup {x1} (hs : GA X es gs) : GE X (.Tuple es x1 pos) (gTup gs) := by
  obtain ⟨u, pb, rb⟩ := hs.ex
  refine ⟨_, pe_tup pb, fun A F H S σ d S' Q k e post => ?_⟩
  obtain ⟨⟨x, S1⟩, h1, e⟩ := bind_inv e
  simp only at e
  split at e
  · rename_i hz
    cases e
    refine rb A F H S σ x _ _ k h1 fun A1 F1 H1 vs p1 s1 k1 r1 => ⟨by rw [r1.length]; exact hz, fun p hp => ?_⟩
    obtain ⟨s2, k2, r2⟩ := k1.newTup hp r1 hz
    exact post A1 _ _ _ p1 (s1.trans s2) k2 r2
  · cases e
theorem e_lst (hs : GA X es gs) : GE X (.List es pos) (gLst gs) := by
  obtain ⟨u, pb, rb⟩ := hs.ex
  refine ⟨_, pe_lst pb, fun A F H S σ d S' Q k e post => ?_⟩
  obtain ⟨⟨x, S1⟩, h1, e⟩ := bind_inv e
  simp only at e
  split at e
  · rename_i hz
    cases e
    refine rb A F H S σ x _ _ k h1 fun A1 F1 H1 vs p1 s1 k1 r1 => ⟨by rw [r1.length]; exact hz, fun p hp => ?_⟩
    obtain ⟨s2, k2, r2⟩ := k1.newList hp r1 hz
    exact post A1 _ _ _ p1 (s1.trans s2) k2 r2
  · cases e

/-! ### items, slices -/
def dIx : D → D → Option D
  | .list xs, .int i => atI xs i
  | .tuple xs, .int i => atI xs i
  | .str z, .int i => (atI z.cps.toList i).bind fun c => some (.str ⟨#[c]⟩)
  | _, _ => none
theorem rps_atI {K : PySem.W.Frag} {F : Hp} {vs : List V} {ds : List D} {i : Int} {d : D} (r : Rps K F vs ds) (h : atI ds i = some d) : ∃ v, atI vs i = some v ∧ Rp K F v d := by
  unfold atI at h ⊢
  rw [r.length]
  obtain ⟨j, h1, h2⟩ := bind_inv h
  rw [h1]
  exact r.get h2
def rIxAny (K : PySem.W.Frag) : R2 := fun x y H Q => rIxL K x y H Q ∨ rIxT K x y H Q ∨ rIxS x y H Q
theorem ix_any : IxR X (rIxAny X.K) := IxR.or ix_list (IxR.or ix_tup ix_str)
theorem one_len (c : Nat) : (⟨#[c]⟩ : Str).length ≤ sizeLine := by
  show 1 ≤ sizeLine
  decide
theorem rd_ix {K : PySem.W.Frag} : RdOp K (rIxAny K) dIx := by
  intro A F H S σ x y d e z Q k rx ry h post
  unfold dIx at h
  split at h
  · obtain ⟨a, xs, rfl, h1, h2, _⟩ := rp_list_inv rx
    cases rp_int_inv ry
    obtain ⟨v, e1, r⟩ := rps_atI h2 h
    exact .inl ⟨a, xs, _, v, rfl, rfl, SqL.of (k.sub.same _ _ h1), e1, post F H _ (SameT.refl F) k r⟩
  · obtain ⟨a, xs, rfl, h1, h2, _⟩ := rp_tup_inv rx
    cases rp_int_inv ry
    obtain ⟨v, e1, r⟩ := rps_atI h2 h
    exact .inr (.inl ⟨a, xs, _, v, rfl, rfl, sqT_same k.sub.same.t h1, e1, post F H _ (SameT.refl F) k r⟩)
  · obtain ⟨rfl, hz⟩ := rp_str_inv rx
    cases rp_int_inv ry
    obtain ⟨c, h1, h2⟩ := bind_inv h
    cases h2
    exact .inr (.inr ⟨_, _, c, rfl, rfl, hz, h1, post F H _ (SameT.refl F) k (.str (one_len c))⟩)
  · cases h
theorem e_ix (ha : GE X a ga) (hb : GE X b gb) (hs : PlainIx b := by exact fun _ _ => rfl) : GE X (.Subscript a b pos) (gBin dIx ga gb) := by
  obtain ⟨t, pa, ra⟩ := ha.ex
  obtain ⟨u, pb, rb⟩ := hb.ex
  exact ⟨_, pe_ix ix_any pa pb hs, rd_op rd_ix ra rb⟩
/-- a slice's part -/
structure GO (X : Cx) (e : Option Expr) (g : M (Option Int)) : Prop where
  ex : ∃ t, PO X e t ∧ ∀ A F H S σ o S' (Q : Option Int → Hp → Prop), Ok X.K A F H S σ → g S = some (o, S') → (∀ A' F' H', A <+: A' → SameT F F' → Ok X.K A' F' H' S' σ → Q o H') → t σ H Q
def gNo : M (Option Int) := fun S => some (none, S)
def gSo (g : M D) : M (Option Int) := fun S => (g S).bind fun p => match p.1 with
  | .int i => some (some i, p.2)
  | _ => none
theorem o_none : GO X none gNo := ⟨_, po_none, fun A F H S σ o S' Q k e post => by cases e; exact post A F H (List.prefix_refl _) (SameT.refl F) k⟩
theorem o_some (ha : GE X a ga) : GO X (some a) (gSo ga) := by
  obtain ⟨t, pa, ra⟩ := ha.ex
  refine ⟨_, po_some pa, fun A F H S σ o S' Q k e post => ?_⟩
  obtain ⟨⟨x, S1⟩, h1, e⟩ := bind_inv e
  refine ra A F H S σ x _ _ k h1 fun A1 F1 H1 v p1 s1 k1 r1 => ?_
  cases x <;> simp only at e <;> cases e
  cases rp_int_inv r1
  exact ⟨_, rfl, post A1 F1 H1 p1 s1 k1⟩
def cutL {α : Type} (xs : List α) (lo hi : Option Int) : List α := (xs.drop (HT.sIx xs.length 0 lo)).take (HT.sIx xs.length xs.length hi - HT.sIx xs.length 0 lo)
theorem cutL_le {α : Type} (xs : List α) (lo hi : Option Int) : (cutL xs lo hi).length ≤ xs.length := by
  unfold cutL
  rw [List.length_take, List.length_drop]
  omega
def dSl : D → Option Int → Option Int → Option D
  | .list xs, lo, hi => some (.list (cutL xs lo hi))
  | .tuple xs, lo, hi => some (.tuple (cutL xs lo hi))
  | .str z, lo, hi => some (.str (cutS z lo hi))
  | _, _, _ => none
def gSl (g : M D) (gl gh : M (Option Int)) : M D := fun S => (g S).bind fun p => (gl p.2).bind fun q => (gh q.2).bind fun r => (dSl p.1 q.1 r.1).bind fun z => some (z, r.2)
def rSlAny (K : PySem.W.Frag) : V → Option Int → Option Int → Hp → VK → Prop := fun x lo hi H Q => rSlL K x lo hi H Q ∨ rSlA K x lo hi H Q ∨ rSlS x lo hi H Q
theorem sl_any : SlR X (rSlAny X.K) := SlR.or sl_list (SlR.or sl_tupA sl_str)
theorem rps_cut {K : PySem.W.Frag} {F : Hp} {vs : List V} {ds : List D} (r : Rps K F vs ds) (lo hi : Option Int) : Rps K F (cutV vs lo hi) (cutL ds lo hi) := by
  unfold cutV cutL
  rw [r.length]
  exact (r.drop _).take _
theorem rd_sl {K : PySem.W.Frag} {A : List Addr} {F H : Hp} {S : Sx} {σ : L2.St} {x : V} {d z : D} {lo hi : Option Int} {Q : VK} (k : Ok K A F H S σ) (rx : Rp K F x d) (h : dSl d lo hi = some z)
    (post : ∀ F' H' v, SameT F F' → Ok K A F' H' S σ → Rp K F' v z → Q v H') : rSlAny K x lo hi H Q := by
  cases d <;> simp only [dSl] at h <;> cases h
  · obtain ⟨rfl, hz⟩ := rp_str_inv rx
    exact .inr (.inr ⟨_, rfl, hz, post F H _ (SameT.refl F) k (.str (Nat.le_trans (cutS_length _ _ _) hz))⟩)
  · obtain ⟨a, xs, rfl, h1, h2, h3⟩ := rp_list_inv rx
    refine .inl ⟨a, xs, rfl, SqL.of (k.sub.same _ _ h1), fun p hp => ?_⟩
    obtain ⟨s1, k1, r1⟩ := k.newList hp (rps_cut h2 lo hi) (Nat.le_trans (cutL_le _ _ _) h3)
    exact post _ _ _ s1 k1 r1
  · obtain ⟨a, xs, rfl, h1, h2, h3⟩ := rp_tup_inv rx
    refine .inr (.inl ⟨a, xs, rfl, sqT_same k.sub.same.t h1, fun hw => ?_, fun _ p hp => ?_⟩)
    · refine post F H _ (SameT.refl F) k ?_
      rename_i ds
      have : cutL ds lo hi = ds := by
        unfold cutL
        rw [← h2.length, hw.1, hw.2, h2.length]
        simp
      rw [this]
      exact rx
    · obtain ⟨s1, k1, r1⟩ := k.newTup hp (rps_cut h2 lo hi) (Nat.le_trans (cutL_le _ _ _) h3)
      exact post _ _ _ s1 k1 r1
theorem e_sl {lo hi : Option Expr} {p2 : Pos} {gl gh : M (Option Int)} (ha : GE X a ga) (hl : GO X lo gl) (hh : GO X hi gh) : GE X (.Subscript a (.Slice lo hi none p2) pos) (gSl ga gl gh) := by
  obtain ⟨t, pa, ra⟩ := ha.ex
  obtain ⟨_, pl, rl⟩ := hl.ex
  obtain ⟨_, ph, rh⟩ := hh.ex
  refine ⟨_, pe_slice sl_any pa pl ph, fun A F H S σ d S' Q k e post => ?_⟩
  obtain ⟨⟨x, S1⟩, h1, e⟩ := bind_inv e
  obtain ⟨⟨l, S2⟩, h2, e⟩ := bind_inv e
  obtain ⟨⟨u, S3⟩, h3, e⟩ := bind_inv e
  obtain ⟨z, h4, e⟩ := bind_inv e
  cases e
  refine ra A F H S σ x _ _ k h1 fun A1 F1 H1 v p1 s1 k1 r1 => rl A1 F1 H1 _ σ l _ _ k1 h2 fun A2 F2 H2 p2 s2 k2 => rh A2 F2 H2 _ σ u _ _ k2 h3 fun A3 F3 H3 p3 s3 k3 => ?_
  exact rd_sl k3 ((r1.mono s2 _ _).mono s3 _ _) h4 fun F4 H4 w s4 k4 r4 => post A3 F4 H4 w (p1.trans (p2.trans p3)) (s1.trans (s2.trans (s3.trans s4))) k4 r4
end
end Fu

set_option maxHeartbeats 4000000
namespace Fu
open PySem PySem.Spec PyProof.Rows L2
variable [TabsC]

/-! ### calls of built-ins by name -/
def RdC (K : PySem.W.Frag) (r : List V → Hp → VK → Prop) (f : List D → Option D) : Prop := ∀ A F H S σ xs ds z Q, Ok K A F H S σ → Rps K F xs ds → f ds = some z →
  (∀ F' H' v, SameT F F' → Ok K A F' H' S σ → Rp K F' v z → Q v H') → r xs H Q
def gCall (f : List D → Option D) (g : M (List D)) : M D := fun S => (g S).bind fun p => (f p.1).bind fun z => some (z, p.2)
section
variable {X : Cx} {pos p p2 : Pos} {x : Str} {e : Expr} {es : List Expr} {gs : M (List D)} {r : List V → Hp → VK → Prop} {f : List D → Option D} {id T : String}
theorem rd_callB {K : PySem.W.Frag} {t : TA} (hf : RdC K r f) (rs : RdA K t gs) : RdE K (tCB r t) (gCall f gs) := by
  intro A F H S σ d S' Q k h post
  obtain ⟨⟨ds, S1⟩, h1, h⟩ := bind_inv h
  obtain ⟨z, h2, h⟩ := bind_inv h
  cases h
  exact rs A F H S σ ds _ _ k h1 fun A1 F1 H1 vs p1 s1 k1 r1 => hf A1 F1 H1 _ σ vs ds _ Q k1 r1 h2 fun F2 H2 v s2 k2 r2 => post A1 F2 H2 v p1 (s1.trans s2) k2 r2
theorem e_callB (hc : CallR X (.builtin id) r) (hf : RdC X.K r f) (hm : X.mg x = none) (hv : bootBuiltins x = some (.builtin id)) (ha : GA X (e :: es) gs) (hg : Gl X x := by rfl) (hn : x ≠ "__name__" := by decide) (hdb : (x == ("__debug__" : Str)) = false := by decide)
    (he : starEach (e :: es) X.env = (false, eval e X.env) :: starEach es X.env := by rfl) (hpl : (backTo pos (starEach es X.env)).any (·.1) = false := by rfl) : GE X (.Call (.Name x p) (e :: es) [] pos) (gCall f gs) :=
  let ⟨_, pa, ra⟩ := ha.ex; ⟨_, pe_callB hc hg hm hv pa hn hdb he hpl, rd_callB hf ra⟩
theorem e_callTy (hc : CallR X (.type T) r) (hf : RdC X.K r f) (hm : X.mg x = none) (hv : bootBuiltins x = some (.type T)) (ha : GA X (e :: es) gs) (hg : Gl X x := by rfl) (hn : x ≠ "__name__" := by decide) (hdb : (x == ("__debug__" : Str)) = false := by decide)
    (he : starEach (e :: es) X.env = (false, eval e X.env) :: starEach es X.env := by rfl) (hpl : (backTo pos (starEach es X.env)).any (·.1) = false := by rfl) : GE X (.Call (.Name x p) (e :: es) [] pos) (gCall f gs) :=
  let ⟨_, pa, ra⟩ := ha.ex; ⟨_, pe_callTy hc hg hm hv pa hn hdb he hpl, rd_callB hf ra⟩
end

section
variable {K : PySem.W.Frag}
theorem rps1 {F : Hp} {vs : List V} {d : D} (r : Rps K F vs [d]) : ∃ v, vs = [v] ∧ Rp K F v d := by
  cases r with
  | cons h1 h2 => cases h2; exact ⟨_, rfl, h1⟩
theorem rps2 {F : Hp} {vs : List V} {d e : D} (r : Rps K F vs [d, e]) : ∃ v u, vs = [v, u] ∧ Rp K F v d ∧ Rp K F u e := by
  cases r with
  | cons h1 h2 => cases h2 with
    | cons h3 h4 => cases h4; exact ⟨_, _, rfl, h1, h3⟩
def dLen : List D → Option D
  | [.list xs] => some (.int xs.length)
  | [.tuple xs] => some (.int xs.length)
  | [.str x] => some (.int x.length)
  | _ => none
theorem rd_len : RdC K (fun xs H Q => ∃ x n, xs = [x] ∧ LenV K x H n ∧ Q (.int n) H) dLen := by
  intro A F H S σ xs ds z Q k r h post
  unfold dLen at h
  split at h <;> cases h
  · obtain ⟨v, rfl, rv⟩ := rps1 r
    obtain ⟨a, vs, rfl, h1, h2, _⟩ := rp_list_inv rv
    exact ⟨_, _, rfl, .inl ⟨vs, SqL.of (k.sub.same _ _ h1), h2.length.symm⟩, post F H _ (SameT.refl F) k (.int _)⟩
  · obtain ⟨v, rfl, rv⟩ := rps1 r
    obtain ⟨a, vs, rfl, h1, h2, _⟩ := rp_tup_inv rv
    exact ⟨_, _, rfl, .inr ⟨vs, sqT_same k.sub.same.t h1, h2.length.symm⟩, post F H _ (SameT.refl F) k (.int _)⟩
  · obtain ⟨v, rfl, rv⟩ := rps1 r
    obtain ⟨rfl, hz⟩ := rp_str_inv rv
    exact ⟨_, _, rfl, ⟨hz, rfl⟩, post F H _ (SameT.refl F) k (.int _)⟩
def dInt : List D → Option D
  | [.int i] => some (.int i)
  | [.bool b] => some (.int (if b then 1 else 0))
  | _ => none
theorem rd_int : RdC K (fun xs H Q => (∃ i, xs = [.int i] ∧ Q (.int i) H) ∨ ∃ k, xs = [.bl k] ∧ Q (.int (if k then 1 else 0)) H) dInt := by
  intro A F H S σ xs ds z Q k r h post
  unfold dInt at h
  split at h <;> cases h
  · obtain ⟨v, rfl, rv⟩ := rps1 r
    cases rp_int_inv rv
    exact .inl ⟨_, rfl, post F H _ (SameT.refl F) k (.int _)⟩
  · obtain ⟨v, rfl, rv⟩ := rps1 r
    cases rp_bool_inv rv
    exact .inr ⟨_, rfl, post F H _ (SameT.refl F) k (.int _)⟩
def dMax2 : List D → Option D
  | [.int i, .int j] => some (.int (if j > i then j else i))
  | _ => none
def dMin2 : List D → Option D
  | [.int i, .int j] => some (.int (if j < i then j else i))
  | _ => none
theorem rd_max2 : RdC K (fun xs H Q => ∃ i j, xs = [.int i, .int j] ∧ Q (.int (if j > i then j else i)) H) dMax2 := by
  intro A F H S σ xs ds z Q k r h post
  unfold dMax2 at h
  split at h <;> cases h
  obtain ⟨v, u, rfl, rv, ru⟩ := rps2 r
  cases rp_int_inv rv; cases rp_int_inv ru
  exact ⟨_, _, rfl, post F H _ (SameT.refl F) k (.int _)⟩
theorem rd_min2 : RdC K (fun xs H Q => ∃ i j, xs = [.int i, .int j] ∧ Q (.int (if j < i then j else i)) H) dMin2 := by
  intro A F H S σ xs ds z Q k r h post
  unfold dMin2 at h
  split at h <;> cases h
  obtain ⟨v, u, rfl, rv, ru⟩ := rps2 r
  cases rp_int_inv rv; cases rp_int_inv ru
  exact ⟨_, _, rfl, post F H _ (SameT.refl F) k (.int _)⟩
def dList : List D → Option D
  | [.list xs] => some (.list xs)
  | [.tuple xs] => some (.list xs)
  | _ => none
def dTuple : List D → Option D
  | [.list xs] => some (.tuple xs)
  | [.tuple xs] => some (.tuple xs)
  | _ => none
theorem rd_tuple : RdC K (fun xs H Q => ∃ p ys, xs = [.ref p] ∧ ((SqL K H p ys ∧ ∀ l, H l = none → Q (.ref l) (upd H l (.tup ys))) ∨ (SqT K H p ys ∧ Q (.ref p) H))) dTuple := by
  intro A F H S σ xs ds z Q k r h post
  unfold dTuple at h
  split at h <;> cases h
  · obtain ⟨v, rfl, rv⟩ := rps1 r
    obtain ⟨a, vs, rfl, h1, h2, h3⟩ := rp_list_inv rv
    refine ⟨_, _, rfl, .inl ⟨SqL.of (k.sub.same _ _ h1), fun l hl => ?_⟩⟩
    obtain ⟨s1, k1, r1⟩ := k.newTup hl h2 h3
    exact post _ _ _ s1 k1 r1
  · obtain ⟨v, rfl, rv⟩ := rps1 r
    obtain ⟨a, vs, rfl, h1, h2, h3⟩ := rp_tup_inv rv
    exact ⟨_, _, rfl, .inr ⟨sqT_same k.sub.same.t h1, post F H _ (SameT.refl F) k rv⟩⟩
/-- all items are truths -/
def allBools : List D → Option (List Bool)
  | [] => some []
  | .bool b :: ds => (allBools ds).bind fun bs => some (b :: bs)
  | _ => none
theorem allBools_map : ∀ {ds : List D} {bs : List Bool}, allBools ds = some bs → ds = bs.map .bool
  | [], _, h => by cases h; rfl
  | .bool b :: ds, _, h => by
    obtain ⟨bs, h1, h2⟩ := bind_inv h
    cases h2
    rw [List.map_cons, allBools_map h1]
  | .none :: _, _, h => by simp [allBools] at h
  | .int _ :: _, _, h => by simp [allBools] at h
  | .str _ :: _, _, h => by simp [allBools] at h
  | .list _ :: _, _, h => by simp [allBools] at h
  | .tuple _ :: _, _, h => by simp [allBools] at h
  | .dict _ :: _, _, h => by simp [allBools] at h
theorem rps_bools {F : Hp} : ∀ {vs : List V} {bs : List Bool}, Rps K F vs (bs.map .bool) → vs = bs.map V.bl
  | _, [], h => by cases h; rfl
  | _, b :: bs, h => by
    cases h with
    | cons h1 h2 => rw [rp_bool_inv h1, rps_bools h2]; rfl
def dAll : List D → Option D
  | [.list xs] => (allBools xs).bind fun bs => some (.bool (bs.all id))
  | _ => none
theorem rd_all : RdC K (rAll K) dAll := by
  intro A F H S σ xs ds z Q k r h post
  unfold dAll at h
  split at h
  · obtain ⟨bs, h1, h2⟩ := bind_inv h
    cases h2
    obtain ⟨v, rfl, rv⟩ := rps1 r
    obtain ⟨a, vs, rfl, g1, g2, g3⟩ := rp_list_inv rv
    rw [allBools_map h1] at g2
    rw [rps_bools g2] at g1
    exact ⟨a, bs, rfl, SqL.of (k.sub.same _ _ g1), post F H _ (SameT.refl F) k (.bl _)⟩
  · cases h
end
section
variable {X : Cx} {pos p p2 : Pos} {e : Expr} {es : List Expr} {gs : M (List D)}
theorem e_len (hm : X.mg "len" = none) (ha : GA X [e] gs) (hg : Gl X "len" := by rfl) (he : starEach [e] X.env = (false, eval e X.env) :: starEach [] X.env := by rfl) : GE X (.Call (.Name "len" p) [e] [] pos) (gCall dLen gs) :=
  e_callB call_len rd_len hm PySem.boot_len ha hg (he := he) (hpl := by rfl)
theorem e_intOf (hm : X.mg "int" = none) (ha : GA X [e] gs) (hg : Gl X "int" := by rfl) (he : starEach [e] X.env = (false, eval e X.env) :: starEach [] X.env := by rfl) : GE X (.Call (.Name "int" p) [e] [] pos) (gCall dInt gs) :=
  e_callTy call_int1 rd_int hm (by decide +kernel) ha hg (he := he) (hpl := by rfl)
theorem e_tuple (hm : X.mg "tuple" = none) (ha : GA X [e] gs) (hg : Gl X "tuple" := by rfl) (he : starEach [e] X.env = (false, eval e X.env) :: starEach [] X.env := by rfl) : GE X (.Call (.Name "tuple" p) [e] [] pos) (gCall dTuple gs) :=
  e_callTy call_tuple_of rd_tuple hm (by decide +kernel) ha hg (he := he) (hpl := by rfl)
theorem e_all (hm : X.mg "all" = none) (ha : GA X [e] gs) (hc : X.calm = true := by rfl) (hg : Gl X "all" := by rfl) (he : starEach [e] X.env = (false, eval e X.env) :: starEach [] X.env := by rfl) : GE X (.Call (.Name "all" p) [e] [] pos) (gCall dAll gs) :=
  e_callB (cr_all hc) rd_all hm (by decide +kernel) ha hg (he := he) (hpl := by rfl)
variable {e2 : Expr}
theorem e_max2 (hm : X.mg "max" = none) (ha : GA X [e, e2] gs) (hc : X.calm = true := by rfl) (hg : Gl X "max" := by rfl) (he : starEach [e, e2] X.env = (false, eval e X.env) :: starEach [e2] X.env := by rfl) (hpl : (backTo pos (starEach [e2] X.env)).any (·.1) = false := by rfl) :
    GE X (.Call (.Name "max" p) [e, e2] [] pos) (gCall dMax2 gs) := e_callB (call_max2 hc) rd_max2 hm (by decide +kernel) ha hg (he := he) (hpl := hpl)
theorem e_min2 (hm : X.mg "min" = none) (ha : GA X [e, e2] gs) (hc : X.calm = true := by rfl) (hg : Gl X "min" := by rfl) (he : starEach [e, e2] X.env = (false, eval e X.env) :: starEach [e2] X.env := by rfl) (hpl : (backTo pos (starEach [e2] X.env)).any (·.1) = false := by rfl) :
    GE X (.Call (.Name "min" p) [e, e2] [] pos) (gCall dMin2 gs) := e_callB (call_min2 hc) rd_min2 hm (by decide +kernel) ha hg (he := he) (hpl := hpl)
end

/-! ### isinstance -/
def dTy : D → String
  | .none => "NoneType"
  | .bool _ => "bool"
  | .int _ => "int"
  | .str _ => "str"
  | .list _ => "list"
  | .tuple _ => "tuple"
  | .dict _ => "dict"
def isT (T : String) (d : D) : Bool := (dTy d == T) || (T == "int" && dTy d == "bool")
theorem kit_int (d : D) : kitB (dTy d) "int" = some (isT "int" d) := by cases d <;> simp only [dTy, isT] <;> decide +kernel
theorem kit_bool (d : D) : kitB (dTy d) "bool" = some (isT "bool" d) := by cases d <;> simp only [dTy, isT] <;> decide +kernel
theorem kit_list (d : D) : kitB (dTy d) "list" = some (isT "list" d) := by cases d <;> simp only [dTy, isT] <;> decide +kernel
theorem kit_tuple (d : D) : kitB (dTy d) "tuple" = some (isT "tuple" d) := by cases d <;> simp only [dTy, isT] <;> decide +kernel
def TyE (K : PySem.W.Frag) (H : Hp) (v : V) (t : Value) : Prop := TyX K H v t ∨ ∃ a, v = .ref a ∧ t = .type "dict" ∧ H a = some (dictO a)
theorem kit_ofE {X : Cx} {pins : List (Addr × Obj)} {σ : L2.St} {H : Hp} {s : Shared} {x : V} {u t : Value} (I : Inv X pins σ H s) (r : RelV x u) (ty : TyE X.K H x t) : ∃ P, PySem.W.KitX X.K u t P ∧ P s.heap ∧ u ≠ .builtin "__main__.__loader__#opaque" := by
  rcases ty with ty | ⟨a, rfl, rfl, h⟩
  · exact kit_of I r ty
  · cases r
    exact ⟨_, PySem.W.kitx_dict, (show ObjOk X.prog X.w H s.heap a (dictO a) from I.hok a _ h).1, (fun z => nomatch z)⟩
def rIsiE (K : PySem.W.Frag) : List V → Hp → VK → Prop := fun xs H Q => ∃ x c t u b, xs = [x, c] ∧ ClsV c u ∧ TyE K H x t ∧ PySem.W.kitOne K t u = some b ∧ Q (.bl b) H
theorem call_isiE {X : Cx} : CallR X (.builtin "isinstance") (rIsiE X.K) := by
  intro pins s σ H xs us Q I r ⟨x, c, t, u, b, e0, k, ty, e, q⟩
  subst e0
  obtain ⟨u1, u2, rfl, r1, r2⟩ := L2.vals2 r
  have e2 := ClsV.eq k r2
  subst e2
  obtain ⟨P, Z, p, hx⟩ := kit_ofE I r1 ty
  exact PySem.W.kia_one Z I.kIn p e hx fun tk => ⟨.bl b, H, I.tok tk, rfl, q⟩
def rIsiTE (K : PySem.W.Frag) : List V → Hp → VK → Prop := fun xs H Q => ∃ x tp cs t us b, xs = [x, .ref tp] ∧ H tp = some (.tup cs) ∧ Paired ClsV cs us ∧ TyE K H x t ∧ PySem.W.kitAny K t us = some b ∧ Q (.bl b) H
theorem cls_vals : ∀ {cs : List V} {us its : List Value}, Paired ClsV cs us → Vals cs its → its = us
  | [], _, _, .nil, .nil => rfl
  | _ :: _, _, _, .cons h1 h2, .cons g1 g2 => by rw [cls_vals h2 g2, ClsV.eq h1 g1]
theorem call_isiTE {X : Cx} : CallR X (.builtin "isinstance") (rIsiTE X.K) := by
  intro pins s σ H xs us Q I r ⟨x, tp, cs, t, ws, b, e0, hT, k, ty, e, q⟩
  subst e0
  obtain ⟨u1, u2, rfl, r1, r2⟩ := L2.vals2 r
  cases r2
  obtain ⟨P, Z, p, hx⟩ := kit_ofE I r1 ty
  obtain ⟨_, its, rv, ot, t1, t2, n, t3⟩ := (show ObjOk X.prog X.w H s.heap tp (.tup cs) from I.hok tp _ hT)
  have hi := cls_vals k rv
  subst hi
  obtain ⟨oc, od, oda, osl⟩ := ot
  dsimp only at t2 t3
  subst t2 t3
  exact PySem.W.kia_tup Z I.kIn p t1 e hx fun tk => ⟨.bl b, H, I.tok tk, rfl, q⟩
theorem rp_ty {K : PySem.W.Frag} {F H : Hp} {v : V} {d : D} (s : SameT F H) (r : Rp K F v d) : TyE K H v (.type (dTy d)) := by
  cases r with
  | non => exact .inl (.base .non)
  | bl b => exact .inl (.base (.bl b))
  | int i => exact .inl (.base (.int i))
  | str _ => exact .inl (.base (.str _))
  | lst h1 _ _ => exact .inl (.base (.lst (s.old _ _ h1 trivial)))
  | tup h1 _ _ => exact .inl (.base (.tup (s.old _ _ h1 trivial)))
  | dcT h _ => exact .inl (.base (.dT (s.old _ _ h trivial)))
  | dct h _ _ =>
    rcases h with ⟨es, h⟩ | ⟨es, h⟩ | h
    · exact .inl (.base (.dK (s.old _ _ h trivial)))
    · exact .inl (.base (.dT (s.old _ _ h trivial)))
    · exact .inr ⟨_, rfl, rfl, s.old _ _ h trivial⟩
section
variable {X : Cx} {pos p p2 p3 p4 : Pos} {e : Expr} {g : M D} {x y : Str} {T U : String}
def gIsi (T : String) (g : M D) : M D := fun S => (g S).bind fun p => some (.bool (isT T p.1), p.2)
def gIsi2 (T U : String) (g : M D) : M D := fun S => (g S).bind fun p => some (.bool (isT T p.1 || isT U p.1), p.2)
theorem e_isi (hm : X.mg "isinstance" = none) (hmx : X.mg x = none) (hv : bootBuiltins x = some (.type T)) (kt : ∀ d, kitB (dTy d) T = some (isT T d)) (ha : GE X e g) (hg : Gl X "isinstance" := by rfl) (hgx : Gl X x := by rfl)
    (hnx : x ≠ "__name__" := by decide) (hdx : (x == ("__debug__" : Str)) = false := by decide)
    (he : starEach [e, .Name x p2] X.env = (false, eval e X.env) :: starEach [.Name x p2] X.env := by rfl) (he2 : starEach [.Name x p2] X.env = (false, eval (.Name x p2) X.env) :: starEach [] X.env := by rfl)
    (hpl : (backTo pos (starEach [.Name x p2] X.env)).any (·.1) = false := by rfl) :
    GE X (.Call (.Name "isinstance" p) [e, .Name x p2] [] pos) (gIsi T g) := by
  obtain ⟨t, pa, ra⟩ := ha.ex
  refine ⟨_, pe_callB call_isiE hg hm (by decide +kernel) (pa_cons pa (pa_cons (pe_bltn (v := .ty T) hgx hmx hv rfl hnx hdx) pa_nil he2) he) (by decide) (by decide) he hpl, fun A F H S σ d S' Q k h post => ?_⟩
  obtain ⟨⟨d1, S1⟩, h1, h⟩ := bind_inv h
  cases h
  refine ra A F H S σ d1 _ _ k h1 fun A1 F1 H1 v p1 s1 k1 r1 => ?_
  exact ⟨v, .ty T, _, _, _, rfl, .ty T, rp_ty k1.sub.same.t r1, kit_ty (kt d1), post A1 F1 H1 _ p1 s1 k1 (.bl _)⟩
theorem e_isi2 {kx} (hm : X.mg "isinstance" = none) (hmx : X.mg x = none) (hv : bootBuiltins x = some (.type T)) (kt : ∀ d, kitB (dTy d) T = some (isT T d)) (hmy : X.mg y = none) (hw : bootBuiltins y = some (.type U)) (ku : ∀ d, kitB (dTy d) U = some (isT U d))
    (ha : GE X e g) (hg : Gl X "isinstance" := by rfl) (hgx : Gl X x := by rfl) (hgy : Gl X y := by rfl)
    (hnx : x ≠ "__name__" := by decide) (hdx : (x == ("__debug__" : Str)) = false := by decide) (hny : y ≠ "__name__" := by decide) (hdy : (y == ("__debug__" : Str)) = false := by decide)
    (he : starEach [e, .Tuple [.Name x p2, .Name y p3] kx p4] X.env = (false, eval e X.env) :: starEach [.Tuple [.Name x p2, .Name y p3] kx p4] X.env := by rfl)
    (he2 : starEach [.Tuple [.Name x p2, .Name y p3] kx p4] X.env = (false, eval (.Tuple [.Name x p2, .Name y p3] kx p4) X.env) :: starEach [] X.env := by rfl)
    (he3 : starEach [.Name x p2, .Name y p3] X.env = (false, eval (.Name x p2) X.env) :: starEach [.Name y p3] X.env := by rfl)
    (he4 : starEach [.Name y p3] X.env = (false, eval (.Name y p3) X.env) :: starEach [] X.env := by rfl)
    (hpl : (backTo pos (starEach [.Tuple [.Name x p2, .Name y p3] kx p4] X.env)).any (·.1) = false := by rfl) :
    GE X (.Call (.Name "isinstance" p) [e, .Tuple [.Name x p2, .Name y p3] kx p4] [] pos) (gIsi2 T U g) := by
  obtain ⟨t, pa, ra⟩ := ha.ex
  refine ⟨_, pe_callB call_isiTE hg hm (by decide +kernel) (pa_cons pa (pa_cons (pe_tup (pa_cons (pe_bltn (v := .ty T) hgx hmx hv rfl hnx hdx) (pa_cons (pe_bltn (v := .ty U) hgy hmy hw rfl hny hdy) pa_nil he4) he3)) pa_nil he2) he) (by decide) (by decide) he hpl, fun A F H S σ d S' Q k h post => ?_⟩
  obtain ⟨⟨d1, S1⟩, h1, h⟩ := bind_inv h
  cases h
  refine ra A F H S σ d1 _ _ k h1 fun A1 F1 H1 v p1 s1 k1 r1 => ?_
  refine ⟨by show 2 ≤ sizeLine; decide, fun q hq => ?_⟩
  have k2 := k1.laid (o := .tup [.ty T, .ty U]) hq
  have s2 : SameT F1 (upd F1 q (.tup [.ty T, .ty U])) := same_upd (k1.sub.none hq)
  refine ⟨v, q, _, _, _, _, rfl, upd_same, .cons (.ty T) (.cons (.ty U) .nil), rp_ty k2.sub.same.t (r1.mono s2 _ _), ?_, post A1 _ _ _ p1 (s1.trans s2) k2 (.bl _)⟩
  refine kitAny_cons (kit_ty (kt d1)) (fun e1 => ?_) (fun e1 => by rw [e1]; rfl)
  rw [e1]
  exact kitAny_cons (kit_ty (ku d1)) (fun e2 => by rw [e2]; exact kitAny_nil) (fun e2 => by rw [e2]; rfl)
end

/-! ### the calls of the text's own defs -/
/-- a def that writes nothing that was there: its value by data -/
def spF (K : PySem.W.Frag) (n : Nat) (f : List D → Option D) : Sp := fun vs H Q _ => ∃ ds z, ds.length = n ∧ Rps K H vs ds ∧ f ds = some z ∧ LamX.Tabs TabsC.T H ∧ ∀ H' v, SameT H H' → Rp K H' v z → Q v H'
theorem spF_len {K : PySem.W.Frag} {n : Nat} {f : List D → Option D} {ps : List Str} (h : ps.length = n) : ∀ vs H Q E, spF K n f vs H Q E → vs.length = ps.length := by
  intro vs H Q E ⟨ds, z, e, r, _⟩
  rw [r.length, e, h]
theorem same_mix {G H G' : Hp} (lost : ∀ b o, H b = some o → G b = none → G' b = none) : Same G' (mixH G H G') := fun b o e => by
  cases q : G b with
  | some u => rw [mix_held q]; exact e
  | none =>
    cases r : H b with
    | none => rw [mix_free r]; exact e
    | some u => rw [lost b u r q] at e; cases e
theorem Ok.mix {K : PySem.W.Frag} {A : List Addr} {F H G' : Hp} {S : Sx} {σ : L2.St} (k : Ok K A F H S σ) (s : SameT F G') (lost : ∀ b o, H b = some o → F b = none → G' b = none) : Ok K A G' (mixH F H G') S σ := by
  refine k.grow ⟨same_mix lost, fun b o e n => ?_⟩ s (fun a ha o e => ?_) fun a ha e => ?_
  · cases q : F b with
    | some u => rw [mix_held q, n] at e; cases e
    | none =>
      cases r : H b with
      | none => rw [mix_free r, n] at e; cases e
      | some u => rw [mix_lost q r] at e; cases e; exact k.sub.loose b _ r q
  · cases q : F a with
    | some u =>
      rw [mix_held q]
      have e2 := k.sub.same a u q
      rw [e] at e2; cases e2
      obtain ⟨_, ho, lo⟩ := k.trk a ha
      rw [e] at ho; cases ho
      exact s.old a _ q lo.nt
    | none => exact mix_lost q e
  · obtain ⟨o, ho, _⟩ := k.trk a ha
    exact lost a o ho e
def gCallF (n : Nat) (f : List D → Option D) (g : M (List D)) : M D := fun S => (g S).bind fun p => if p.1.length = n then (f p.1).bind fun z => some (z, p.2) else none
section
variable {X : Cx} {pos p p2 : Pos} {x : Str} {e : Expr} {es : List Expr} {gs : M (List D)} {f : List D → Option D} {CX : CXT} {k n : Nat} {fa : Addr} {fd : FuncData} {ps : List Str} {E : XK}
theorem e_call (F : FnOk X.prog X.w X.K X.mg X.base CX k fa fd ps (spF X.K n f)) (hr : Room k X.A) (hm : X.mg x = some (.ref fa)) (hk : PySem.W.keepIn X.K (.ref fa) = true) (hb : L2.Binds X.K fd ps []) (hx : Passes CX X E) (ha : GA X (e :: es) gs)
    (hg : Gl X x := by rfl) (hdb : (x == ("__debug__" : Str)) = false := by decide) (he : starEach (e :: es) X.env = (false, eval e X.env) :: starEach es X.env := by rfl) (hpl : (backTo pos (starEach es X.env)).any (·.1) = false := by rfl) :
    GE X (.Call (.Name x p) (e :: es) [] pos) (gCallF n f gs) := by
  obtain ⟨t, pa, ra⟩ := ha.ex
  refine ⟨_, pe_callF F hr hg hm hk hb .nil hx pa hdb he hpl, fun A F H S σ d S' Q k h post => ?_⟩
  obtain ⟨⟨ds, S1⟩, h1, h⟩ := bind_inv h
  simp only at h
  split at h
  · rename_i hn
    obtain ⟨z, h2, h⟩ := bind_inv h
    cases h
    refine ra A F H S σ ds _ _ k h1 fun A1 F1 H1 vs p1 s1 k1 r1 => ⟨F1, k1.sub, ds, _, hn, by rw [List.append_nil]; exact r1, h2, k1.tab, fun G' v sm rv => ⟨fun b xs q => sm.old b _ q trivial, fun lost => ?_⟩⟩
    exact post A1 G' _ v p1 (s1.trans sm) (k1.mix sm lost) rv
  · cases h
/-- a def that writes one list that is handed in, the first argument -/
def spIO (K : PySem.W.Frag) (n : Nat) (f : List D → List D → Option (D × List D)) : Sp := fun vs H Q _ => ∃ (a : Addr) (xs : List V) (rest : List V) (F : Hp) (cs ds : List D) (r : D) (cs' : List D), vs = .ref a :: rest ∧ F a = none ∧ H = upd F a (.lst xs) ∧ cs.length ≤ sizeLine ∧
  Rps K F xs cs ∧ Rps K F rest ds ∧ ds.length = n ∧ f cs ds = some (r, cs') ∧ LamX.Tabs TabsC.T F ∧ ∀ F' xs' v, SameT F F' → F' a = none → Rps K F' xs' cs' → cs'.length ≤ sizeLine → Rp K F' v r → Q v (upd F' a (.lst xs'))
theorem spIO_len {K : PySem.W.Frag} {n : Nat} {f : List D → List D → Option (D × List D)} {ps : List Str} (h : ps.length = n + 1) : ∀ vs H Q E, spIO K n f vs H Q E → vs.length = ps.length := by
  intro vs H Q E ⟨a, xs, rest, F, cs, ds, r, cs', e, _, _, _, _, hr, hn, _⟩
  rw [e, List.length_cons, hr.length, hn, h]
def gIO (i n : Nat) (f : List D → List D → Option (D × List D)) (g : M (List D)) : M D := fun S => match S.sl[i]? with
  | some (some (.own j)) => (g S).bind fun p => match p.2.os[j]? with
    | some (some (.lst cs)) => if p.1.length = n then (f cs p.1).bind fun z => some (z.1, ⟨p.2.sl, p.2.os.set j (some (.lst z.2))⟩) else none
    | _ => none
  | _ => none
theorem prefix_at {α : Type} {A B : List α} {j : Nat} {a : α} (p : A <+: B) (h : A[j]? = some a) : B[j]? = some a := by
  obtain ⟨C, rfl⟩ := p
  rw [List.getElem?_append_left (List.getElem?_eq_some_iff.mp h).1]; exact h
theorem e_callIO {f : List D → List D → Option (D × List D)} {y : Str} {py : Pos} (i : Nat) (F : FnOk X.prog X.w X.K X.mg X.base CX k fa fd ps (spIO X.K n f)) (hr : Room k X.A) (hm : X.mg x = some (.ref fa)) (hk : PySem.W.keepIn X.K (.ref fa) = true) (hb : L2.Binds X.K fd ps []) (hx : Passes CX X E) (ha : GA X es gs)
    (hN : X.N[i]? = some y := by rfl) (hv : Vis X.env.scope y := by first | exact Or.inl rfl | exact Or.inr (Or.inl rfl) | exact Or.inr (Or.inr rfl)) (hdy : (y == ("__debug__" : Str)) = false := by decide) (hcd : (y == ("__classdict__" : Str)) = false := by decide)
    (hg : Gl X x := by rfl) (hdb : (x == ("__debug__" : Str)) = false := by decide) (he : starEach (.Name y py :: es) X.env = (false, eval (.Name y py) X.env) :: starEach es X.env := by rfl) (hpl : (backTo pos (starEach es X.env)).any (·.1) = false := by rfl) :
    GE X (.Call (.Name x p) (.Name y py :: es) [] pos) (gIO i n f gs) := by
  obtain ⟨t, pa, ra⟩ := ha.ex
  refine ⟨_, pe_callF F hr hg hm hk hb .nil hx (pa_cons (pe_var hN hv hdy hcd) pa he) hdb he hpl, fun A F H S σ d S' Q k h post => ?_⟩
  unfold gIO at h
  split at h
  · rename_i j ej
    obtain ⟨⟨ds, S1⟩, h1, h⟩ := bind_inv h
    simp only at h
    split at h
    · rename_i cs ec
      split at h
      · rename_i hn
        obtain ⟨⟨r, cs'⟩, h2, h⟩ := bind_inv h
        cases h
        obtain ⟨a, ea, ev⟩ := k.oslot i j ej
        refine ⟨_, ev, ra A F H S σ ds S1 _ k h1 fun A1 F1 H1 vs p1 s1 k1 r1 => ?_⟩
        obtain ⟨a', ea', fa', xs, hxs, rxs, hz⟩ := k1.cell j _ ec
        rw [prefix_at p1 ea] at ea'; cases ea'
        have sub1 : Sub (upd F1 a (.lst xs)) H1 := ⟨fun b u q => by
            by_cases hb : b = a
            · subst hb; rw [upd_same] at q; cases q; exact hxs
            · rw [upd_ne hb] at q; exact k1.sub.same b u q, fun b u q n => by
            by_cases hb : b = a
            · subst hb; rw [upd_same] at n; cases n
            · rw [upd_ne hb] at n; exact k1.sub.loose b u q n⟩
        refine ⟨upd F1 a (.lst xs), sub1, a, xs, vs, F1, cs, ds, r, cs', by rw [List.append_nil], fa', rfl, hz, rxs, r1, hn, h2, k1.tab, fun F' xs' v sm fa2 rx hz' rv => ⟨fun b ys q => ?_, fun lost => ?_⟩⟩
        · by_cases hb : b = a
          · subst hb; rw [upd_same] at q; cases q
          · rw [upd_ne hb] at q ⊢; exact sm.old b _ q trivial
        · have lostF : ∀ b o, b ≠ a → H1 b = some o → F1 b = none → F' b = none := fun b o hb ho hf => by
            have := lost b o ho (by rw [upd_ne hb]; exact hf)
            rwa [upd_ne hb] at this
          have ma : mixH (upd F1 a (.lst xs)) H1 (upd F' a (.lst xs')) a = some (.lst xs') := by rw [mix_held upd_same, upd_same]
          have mb : ∀ b, b ≠ a → mixH (upd F1 a (.lst xs)) H1 (upd F' a (.lst xs')) b = mixH F1 H1 F' b := fun b hb => by
            unfold mixH
            rw [upd_ne hb, upd_ne hb]
          have km : Ok X.K A1 F' (upd (mixH F1 H1 F') a (.lst xs')) ⟨S1.sl, S1.os.set j (some (.lst cs'))⟩ σ := by
            have e1 : Ok X.K A1 F' (mixH F1 H1 F') S1 σ := by
              refine k1.mix sm fun b o ho hf => ?_
              by_cases hb : b = a
              · subst hb; exact fa2
              · exact lostF b o hb ho hf
            exact e1.cellSet ec (prefix_at p1 ea) trivial ⟨xs', upd_same, rx, hz'⟩
          have em : mixH (upd F1 a (.lst xs)) H1 (upd F' a (.lst xs')) = upd (mixH F1 H1 F') a (.lst xs') := by
            funext b
            by_cases hb : b = a
            · subst hb; rw [ma, upd_same]
            · rw [mb b hb, upd_ne hb]
          rw [em]
          exact post A1 F' _ v p1 (s1.trans sm) km rv
      · cases h
    · cases h
  · cases h
end
end Fu

set_option maxHeartbeats 4000000
namespace Fu
open PySem PySem.Spec PyProof.Rows L2 RZ
variable [TabsC]

/-! ### what is walked -/
/-- J yields the data ds, one by one, wherever F stands -/
structure Walk (K : PySem.W.Frag) (F : Hp) (J : It) (ds : List D) : Prop where
  stop : ∀ i H, SameT F H → ds.length ≤ i → J.stop i H
  go : ∀ i H, SameT F H → i < ds.length → J.go i H
  yld : ∀ (i : Nat) d H x H', SameT F H → ds[i]? = some d → J.yld i H x H' → (H' = H ∧ Rp K F x d) ∨ ∃ T vs es, x = .ref T ∧ H T = none ∧ H' = upd H T (.tup vs) ∧ d = .tuple es ∧ Rps K F vs es ∧ es.length ≤ sizeLine
def RdI (K : PySem.W.Frag) (t : TI) (g : M (List D)) : Prop := ∀ A F H S σ ds S' (R : It → Hp → Prop), Ok K A F H S σ → g S = some (ds, S') →
  (∀ A' F' H' J, A <+: A' → SameT F F' → Ok K A' F' H' S' σ → Walk K F' J ds → ds.length ≤ sizeLine → R J H') → t σ H R
structure GI (X : Cx) (tg iter : Expr) (g : M (List D)) : Prop where
  ex : ∃ t, PI X tg iter t ∧ RdI X.K t g
/-- .. of numbers alone: they stand in any heap -/
structure GI0 (X : Cx) (tg iter : Expr) (g : M (List D)) : Prop where
  ex : ∃ t, PI X tg iter t ∧ ∀ A F H S σ ds S' (R : It → Hp → Prop), Ok X.K A F H S σ → g S = some (ds, S') →
    (∀ A' F' H' J, A <+: A' → SameT F F' → Ok X.K A' F' H' S' σ → Walk X.K (fun _ => none) J ds → R J H') → t σ H R
theorem PI.or {X : Cx} {tg iter : Expr} {t u : TI} (h1 : PI X tg iter t) (h2 : PI X tg iter u) : PI X tg iter (fun σ H R => t σ H R ∨ u σ H R) :=
  ⟨fun pins s σ H R I h => h.elim (h1.run pins s σ H R I) (h2.run pins s σ H R I)⟩
section
variable {K : PySem.W.Frag} {F : Hp}
theorem walk_list {a : Addr} {vs : List V} {ds : List D} (h : F a = some (.lst vs)) (r : Rps K F vs ds) : Walk K F (Itl K a) ds where
  stop := fun i H s hi => ⟨vs, SqL.of (s.old _ _ h trivial), by rw [r.length]; exact hi⟩
  go := fun i H s hi => by
    obtain ⟨v, e, _⟩ := r.get (List.getElem?_eq_getElem hi)
    exact ⟨vs, v, SqL.of (s.old _ _ h trivial), e⟩
  yld := fun i d H x H' s hd y => by
    obtain ⟨e, y⟩ := y
    obtain ⟨v, ev, rv⟩ := r.get hd
    have := y vs (SqL.of (s.old _ _ h trivial))
    rw [ev] at this; cases this
    exact .inl ⟨e, rv⟩
theorem walk_tup {a : Addr} {vs : List V} {ds : List D} (h : SqT K F a vs) (r : Rps K F vs ds) : Walk K F (Itt K a) ds where
  stop := fun i H s hi => ⟨vs, sqT_same s h, by rw [r.length]; exact hi⟩
  go := fun i H s hi => by
    obtain ⟨v, e, _⟩ := r.get (List.getElem?_eq_getElem hi)
    exact ⟨vs, v, sqT_same s h, e⟩
  yld := fun i d H x H' s hd y => by
    obtain ⟨e, y⟩ := y
    obtain ⟨v, ev, rv⟩ := r.get hd
    have := y vs (sqT_same s h)
    rw [ev] at this; cases this
    exact .inl ⟨e, rv⟩
def chars (x : Str) : List D := x.cps.toList.map fun c => .str ⟨#[c]⟩
theorem walk_str (x : Str) : Walk K F (Its x) (chars x) where
  stop := fun i H s hi => by
    have : x.cps.size ≤ i := by simpa [chars] using hi
    exact this
  go := fun i H s hi => by
    have : i < x.cps.size := by simpa [chars] using hi
    exact this
  yld := fun i d H v H' s hd y => by
    obtain ⟨e, c, hc, rfl⟩ := y
    have h2 : x.cps.toList[i]? = some c := by rw [Array.getElem?_toList]; exact hc
    unfold chars at hd
    rw [List.getElem?_map, h2] at hd
    cases hd
    exact .inl ⟨e, .str (one_len c)⟩
def rng (lo : Int) (n : Nat) : List D := (List.range n).map fun i : Nat => .int (lo + (i : Int))
theorem walk_range (lo : Int) (n : Nat) : Walk K F (Itr lo n) (rng lo n) where
  stop := fun i H s hi => by
    have : n ≤ i := by simpa [rng] using hi
    exact this
  go := fun i H s hi => by
    have : i < n := by simpa [rng] using hi
    exact this
  yld := fun i d H v H' s hd y => by
    obtain ⟨e, rfl⟩ := y
    unfold rng at hd
    rw [List.getElem?_map] at hd
    obtain ⟨j, hj, rfl⟩ := Option.map_eq_some_iff.mp hd
    rw [List.getElem?_range (by
      have := (List.getElem?_eq_some_iff.mp hj).1
      simpa using this)] at hj
    cases hj
    exact .inl ⟨e, .int _⟩
def zipD : List D → List D → List D
  | x :: xs, y :: ys => .tuple [x, y] :: zipD xs ys
  | _, _ => []
theorem zipD_eq : ∀ xs ys : List D, zipD xs ys = (xs.zip ys).map fun p => .tuple [p.1, p.2]
  | x :: xs, y :: ys => by rw [zipD, zipD_eq xs ys]; rfl
  | [], _ => by simp [zipD]
  | _ :: _, [] => by simp [zipD]
end
def itemsOf : D → Option (List D)
  | .list xs => some xs
  | .tuple xs => some xs
  | .str x => some (chars x)
  | _ => none
/-- the items of a list, a tuple, a text -/
def gItems (g : M D) : M (List D) := fun S => (g S).bind fun p => (itemsOf p.1).bind fun xs => some (xs, p.2)
section
variable {X : Cx} {tg e e2 e3 : Expr} {ge ge2 : M D} {pos p p2 : Pos} {gs : M (List D)}
theorem chars_len {x : Str} (h : x.length ≤ sizeLine) : (chars x).length ≤ sizeLine := by
  unfold chars
  rw [List.length_map, Array.length_toList]
  exact h
theorem i_any (h : GE X e ge) : GI X tg e (gItems ge) := by
  obtain ⟨t, pe, re⟩ := h.ex
  refine ⟨_, PI.or (pi_list pe) (PI.or (pi_tup pe) (pi_str pe)), fun A F H S σ ds S' R k e post => ?_⟩
  obtain ⟨⟨d, S1⟩, h1, e⟩ := bind_inv e
  obtain ⟨xs, h2, e⟩ := bind_inv e
  cases e
  cases d <;> simp only [itemsOf] at h2 <;> cases h2
  · refine .inr (.inr (re A F H S σ _ _ _ k h1 fun A1 F1 H1 v p1 s1 k1 r1 => ?_))
    obtain ⟨rfl, hz⟩ := rp_str_inv r1
    exact ⟨_, rfl, post A1 F1 H1 _ p1 s1 k1 (walk_str _) (chars_len hz)⟩
  · refine .inl (re A F H S σ _ _ _ k h1 fun A1 F1 H1 v p1 s1 k1 r1 => ?_)
    obtain ⟨a, vs, rfl, g1, g2, g3⟩ := rp_list_inv r1
    exact ⟨a, rfl, ⟨vs, SqL.of (k1.sub.same _ _ g1)⟩, post A1 F1 H1 _ p1 s1 k1 (walk_list g1 g2) g3⟩
  · refine .inr (.inl (re A F H S σ _ _ _ k h1 fun A1 F1 H1 v p1 s1 k1 r1 => ?_))
    obtain ⟨a, vs, rfl, g1, g2, g3⟩ := rp_tup_inv r1
    exact ⟨a, rfl, ⟨vs, sqT_same k1.sub.same.t g1⟩, post A1 F1 H1 _ p1 s1 k1 (walk_tup g1 g2) g3⟩
/-- range(n), range(a, b) -/
def gRng1 (g : M (List D)) : M (List D) := fun S => (g S).bind fun p => match p.1 with
  | [.int j] => if -(2 ^ 62) ≤ j ∧ j ≤ sizeLine then some (rng 0 j.toNat, p.2) else none
  | _ => none
def gRng2 (g : M (List D)) : M (List D) := fun S => (g S).bind fun p => match p.1 with
  | [.int i, .int j] => if -(2 ^ 32) ≤ i ∧ i ≤ 2 ^ 32 ∧ -(2 ^ 32) ≤ j ∧ j ≤ 2 ^ 32 ∧ j - i ≤ sizeLine then some (rng i (j - i).toNat, p.2) else none
  | _ => none
theorem rng_len (lo : Int) (n : Nat) : (rng lo n).length = n := by simp [rng]
theorem rps_int1 {K : PySem.W.Frag} {F : Hp} {vs : List V} {i : Int} (r : Rps K F vs [.int i]) : vs = [.int i] := by
  obtain ⟨v, rfl, q⟩ := rps1 r
  cases rp_int_inv q; rfl
theorem rps_int2 {K : PySem.W.Frag} {F : Hp} {vs : List V} {i j : Int} (r : Rps K F vs [.int i, .int j]) : vs = [.int i, .int j] := by
  obtain ⟨v, u, rfl, q, q2⟩ := rps2 r
  cases rp_int_inv q; cases rp_int_inv q2; rfl
theorem line_int : (sizeLine : Int) < 2 ^ 32 := by rw [sizeLine_eq]; decide
theorem rd_rng1 {K : PySem.W.Frag} {ta : TA} (ra : RdA K ta gs) : ∀ A F H S σ ds S' (R : It → Hp → Prop), Ok K A F H S σ → gRng1 gs S = some (ds, S') →
    (∀ A' F' H' J, A <+: A' → SameT F F' → Ok K A' F' H' S' σ → (∀ G, Walk K G J ds) → ds.length ≤ sizeLine → R J H') → iRng1 ta σ H R := by
  intro A F H S σ ds S' R k e post
  obtain ⟨⟨xs, S1⟩, h1, e⟩ := bind_inv e
  simp only at e
  split at e
  · split at e
    · rename_i j hj
      cases e
      refine ra A F H S σ _ _ _ k h1 fun A1 F1 H1 vs p1 s1 k1 r1 => ?_
      have hl := line_int
      exact ⟨j, rps_int1 r1, hj.1, by omega, post A1 F1 H1 _ p1 s1 k1 (fun G => walk_range 0 _) (by rw [rng_len]; omega)⟩
    · cases e
  · cases e
theorem rd_rng2 {K : PySem.W.Frag} {ta : TA} (ra : RdA K ta gs) : ∀ A F H S σ ds S' (R : It → Hp → Prop), Ok K A F H S σ → gRng2 gs S = some (ds, S') →
    (∀ A' F' H' J, A <+: A' → SameT F F' → Ok K A' F' H' S' σ → (∀ G, Walk K G J ds) → ds.length ≤ sizeLine → R J H') → iRng2 ta σ H R := by
  intro A F H S σ ds S' R k e post
  obtain ⟨⟨xs, S1⟩, h1, e⟩ := bind_inv e
  simp only at e
  split at e
  · split at e
    · rename_i i j hj
      cases e
      refine ra A F H S σ _ _ _ k h1 fun A1 F1 H1 vs p1 s1 k1 r1 => ?_
      have hl := line_int
      exact ⟨i, j, rps_int2 r1, by omega, post A1 F1 H1 _ p1 s1 k1 (fun G => walk_range i _) (by rw [rng_len]; omega)⟩
    · cases e
  · cases e
theorem i_range1 (hm : X.mg "range" = none) (ha : GA X [e] gs) (hg : Gl X "range" := by rfl) (hs : starEach [e] X.env = [(false, eval e X.env)] := by rfl) : GI X tg (.Call (.Name "range" p) [e] [] pos) (gRng1 gs) := by
  obtain ⟨t, pa, ra⟩ := ha.ex
  exact ⟨_, pi_range1 hg hm pa hs, fun A F H S σ ds S' R k e post => rd_rng1 ra A F H S σ ds S' R k e fun A1 F1 H1 J p1 s1 k1 w hz => post A1 F1 H1 J p1 s1 k1 (w _) hz⟩
theorem i0_range1 (hm : X.mg "range" = none) (ha : GA X [e] gs) (hg : Gl X "range" := by rfl) (hs : starEach [e] X.env = [(false, eval e X.env)] := by rfl) : GI0 X tg (.Call (.Name "range" p) [e] [] pos) (gRng1 gs) := by
  obtain ⟨t, pa, ra⟩ := ha.ex
  exact ⟨_, pi_range1 hg hm pa hs, fun A F H S σ ds S' R k e post => rd_rng1 ra A F H S σ ds S' R k e fun A1 F1 H1 J p1 s1 k1 w hz => post A1 F1 H1 J p1 s1 k1 (w _)⟩
theorem i0_range2 (hm : X.mg "range" = none) (ha : GA X [e, e2] gs) (hg : Gl X "range" := by rfl) (hs : starEach [e, e2] X.env = [(false, eval e X.env), (false, eval e2 X.env)] := by rfl) (hs2 : starEach [e2] X.env = [(false, eval e2 X.env)] := by rfl) : GI0 X tg (.Call (.Name "range" p) [e, e2] [] pos) (gRng2 gs) := by
  obtain ⟨t, pa, ra⟩ := ha.ex
  exact ⟨_, pi_range2 hg hm pa hs hs2, fun A F H S σ ds S' R k e post => rd_rng2 ra A F H S σ ds S' R k e fun A1 F1 H1 J p1 s1 k1 w hz => post A1 F1 H1 J p1 s1 k1 (w _)⟩
theorem zipD_len (xs ys : List D) : (zipD xs ys).length ≤ xs.length := by
  rw [zipD_eq, List.length_map, List.length_zip]
  omega
end

/-! ### targets: names, tuples of them -/
def RdG (K : PySem.W.Frag) (tgt : List Nat) (t : TG) (g : D → Sx → Option Sx) : Prop := ∀ A F H S σ v d S' (Q : L2.St → Hp → Prop), Ok K A F H S σ → Rp K F v d → g d S = some S' →
  (∀ A' F' H' σ', A <+: A' → SameT F F' → Ok K A' F' H' S' σ' → (∀ vs, (∀ i ∈ tgt, i ∈ vs) → wipe σ' vs = wipe σ vs) → Q σ' H') → t v σ H Q
def RdGs (K : PySem.W.Frag) (tgt : List Nat) (t : TGs) (g : List D → Sx → Option Sx) : Prop := ∀ A F H S σ vs ds S' (Q : L2.St → Hp → Prop), Ok K A F H S σ → Rps K F vs ds → g ds S = some S' →
  (∀ A' F' H' σ', A <+: A' → SameT F F' → Ok K A' F' H' S' σ' → (∀ vs, (∀ i ∈ tgt, i ∈ vs) → wipe σ' vs = wipe σ vs) → Q σ' H') → t vs σ H Q
structure GG (X : Cx) (tgt : List Nat) (e : Expr) (g : D → Sx → Option Sx) : Prop where
  ex : ∃ t, PG X e t ∧ RdG X.K tgt t g
structure GGs (X : Cx) (tgt : List Nat) (es : List Expr) (g : List D → Sx → Option Sx) : Prop where
  ex : ∃ t, PGs X es t ∧ RdGs X.K tgt t g
def sName (i : Nat) : D → Sx → Option Sx := fun d S => some ⟨S.sl.set i (some (.dat d)), S.os⟩
def sNil : List D → Sx → Option Sx := fun ds S => match ds with
  | [] => some S
  | _ => none
def sCons (g : D → Sx → Option Sx) (gs : List D → Sx → Option Sx) : List D → Sx → Option Sx := fun ds S => match ds with
  | d :: ds => (g d S).bind fun S1 => gs ds S1
  | [] => none
def sTup (n : Nat) (gs : List D → Sx → Option Sx) : D → Sx → Option Sx := fun d S => match d with
  | .tuple ds => if ds.length = n then gs ds S else none
  | _ => none
theorem wipe_set {σ : L2.St} {i : Nat} {x : Option V} : ∀ {vs : List Nat}, i ∈ vs → wipe (σ.set i x) vs = wipe σ vs
  | v :: vs, h => by
    unfold wipe
    by_cases hv : i = v
    · subst hv
      by_cases hm : i ∈ vs
      · rw [wipe_set hm]
      · have comm : ∀ ws : List Nat, i ∉ ws → wipe (σ.set i x) ws = (wipe σ ws).set i x := by
          intro ws
          induction ws with
          | nil => intro _; rfl
          | cons w ws ih =>
            intro hn
            simp only [List.mem_cons, not_or] at hn
            unfold wipe
            rw [ih hn.2, List.set_comm _ _ hn.1]
        rw [comm vs hm, List.set_set]
    · rcases List.mem_cons.mp h with e | h
      · exact absurd e hv
      · rw [wipe_set h]
section
variable {X : Cx} {pos : Pos} {e : Expr} {es : List Expr} {n : Nat} {tg ts : List Nat} {g : D → Sx → Option Sx} {gs : List D → Sx → Option Sx}
theorem g_name (i : Nat) {x : Str} (hN : X.N.Nodup) (hx : Loc X.env.scope x := by first | exact Or.inl rfl | exact Or.inr rfl) (hi : X.N[i]? = some x := by rfl) (hf : X.fn x = true ∨ X.env.scope.names.lookup x = some .local := by first | exact .inl rfl | exact .inr rfl | assumption) : GG X [i] (.Name x pos) (sName i) :=
  ⟨_, pg_name hN hi hx hf, fun A F H S σ v d S' Q k r e post => by
    cases e
    exact post A F H _ (List.prefix_refl _) (SameT.refl F) (k.setDat r) fun vs h => wipe_set (h i (by simp))⟩
theorem gs_nil : GGs X [] [] sNil := ⟨_, pgs_nil, fun A F H S σ vs ds S' Q k r e post => by
  cases ds with
  | cons _ _ => cases e
  | nil => cases e; cases r; exact ⟨rfl, post A F H σ (List.prefix_refl _) (SameT.refl F) k fun _ _ => rfl⟩⟩
theorem gs_cons (h1 : GG X tg e g) (h2 : GGs X ts es gs) (hs : (assignEach (e :: es) X.env).map (·.2) = assign e X.env :: (assignEach es X.env).map (·.2) := by rfl) : GGs X (tg ++ ts) (e :: es) (sCons g gs) := by
  obtain ⟨t, p1, r1⟩ := h1.ex
  obtain ⟨u, p2, r2⟩ := h2.ex
  refine ⟨_, pgs_cons p1 p2 hs, fun A F H S σ vs ds S' Q k r e post => ?_⟩
  cases ds with
  | nil => cases e
  | cons d ds =>
    cases r with
    | cons ra rb =>
      obtain ⟨S1, e1, e⟩ := bind_inv e
      refine ⟨_, _, rfl, r1 A F H S σ _ d S1 _ k ra e1 fun A1 F1 H1 σ1 q1 s1 k1 w1 => r2 A1 F1 H1 S1 σ1 _ ds S' Q k1 (Rps.mono s1 _ _ rb) e fun A2 F2 H2 σ2 q2 s2 k2 w2 => ?_⟩
      exact post A2 F2 H2 σ2 (q1.trans q2) (s1.trans s2) k2 fun vs h => (w2 vs fun i hi => h i (List.mem_append_right _ hi)).trans (w1 vs fun i hi => h i (List.mem_append_left _ hi))
theorem g_tup {k} (h : GGs X ts es gs) (hc : X.calm = true := by rfl) (hn : (assignEach es X.env).length = n := by rfl) (hst : (assignEach es X.env).findIdx? (·.1) = none := by rfl) : GG X ts (.Tuple es k pos) (sTup n gs) := by
  obtain ⟨t, p1, r1⟩ := h.ex
  refine ⟨_, pg_tup hc p1 hn hst, fun A F H S σ v d S' Q k r e post => ?_⟩
  cases d <;> simp only [sTup] at e <;> try cases e
  split at e
  · rename_i hl
    obtain ⟨a, vs, rfl, g1, g2, g3⟩ := rp_tup_inv r
    exact ⟨a, vs, rfl, sqT_same k.sub.same.t g1, by rw [g2.length]; exact hl, r1 A F H S σ vs _ S' Q k g2 e post⟩
  · cases e
end
end Fu

set_option maxHeartbeats 4000000
namespace Fu
open PySem PySem.Spec PyProof.Rows L2 RZ
variable [TabsC]

/-! ### slots of a comprehension's own names -/
def wipeS (sl : List (Option R)) : List Nat → List (Option R)
  | [] => sl
  | v :: vs => (wipeS sl vs).set v none
def backS (old new : List (Option R)) : List Nat → List (Option R)
  | [] => new
  | v :: vs => match old[v]? with
    | some x => (backS old new vs).set v x
    | none => backS old new vs
theorem wipeS_len (sl : List (Option R)) : ∀ vs, (wipeS sl vs).length = sl.length
  | [] => rfl
  | v :: vs => by unfold wipeS; rw [List.length_set, wipeS_len sl vs]
theorem backS_len (old new : List (Option R)) : ∀ vs, (backS old new vs).length = new.length
  | [] => rfl
  | v :: vs => by
    unfold backS
    split
    · rw [List.length_set, backS_len old new vs]
    · exact backS_len old new vs
theorem wipeS_in {sl : List (Option R)} {i : Nat} {r : R} : ∀ {vs : List Nat}, (wipeS sl vs)[i]? = some (some r) → sl[i]? = some (some r) ∧ i ∉ vs
  | [], h => ⟨h, by simp⟩
  | v :: vs, h => by
    unfold wipeS at h
    by_cases hi : v = i
    · subst hi
      by_cases hv : v < (wipeS sl vs).length
      · rw [List.getElem?_set_self hv] at h; cases h
      · rw [List.getElem?_eq_none (by simpa using hv)] at h; cases h
    · rw [List.getElem?_set_ne hi] at h
      obtain ⟨h1, h2⟩ := wipeS_in h
      exact ⟨h1, by simp only [List.mem_cons, not_or]; exact ⟨fun e => hi e.symm, h2⟩⟩
theorem wipeS_out {sl : List (Option R)} {i : Nat} : ∀ {vs : List Nat}, i ∉ vs → (wipeS sl vs)[i]? = sl[i]?
  | [], _ => rfl
  | v :: vs, h => by
    simp only [List.mem_cons, not_or] at h
    unfold wipeS
    rw [List.getElem?_set_ne (Ne.symm h.1), wipeS_out h.2]
theorem wipe_outV {σ : L2.St} {i : Nat} : ∀ {vs : List Nat}, i ∉ vs → (wipe σ vs)[i]? = σ[i]?
  | [], _ => rfl
  | v :: vs, h => by
    simp only [List.mem_cons, not_or] at h
    unfold wipe
    rw [List.getElem?_set_ne (Ne.symm h.1), wipe_outV h.2]
theorem backS_in {old new : List (Option R)} {i : Nat} : ∀ {vs : List Nat}, old.length = new.length → (backS old new vs)[i]? = if i ∈ vs then old[i]? else new[i]?
  | [], _ => by simp [backS]
  | v :: vs, h => by
    have ih := backS_in (i := i) (vs := vs) h
    unfold backS
    by_cases hv : v = i
    · subst hv
      simp only [List.mem_cons, true_or, if_true]
      cases e : old[v]? with
      | none =>
        show (backS old new vs)[v]? = none
        rw [ih]
        have hl : new[v]? = none := List.getElem?_eq_none (by rw [← h]; exact List.getElem?_eq_none_iff.mp e)
        split
        · exact e
        · exact hl
      | some x =>
        show ((backS old new vs).set v x)[v]? = some x
        rw [List.getElem?_set_self]
        rw [backS_len, ← h]
        exact (List.getElem?_eq_some_iff.mp e).1
    · have e2 : (match old[v]? with | some x => (backS old new vs).set v x | none => backS old new vs)[i]? = (backS old new vs)[i]? := by
        split
        · rw [List.getElem?_set_ne hv]
        · rfl
      rw [e2, ih]
      have : (i ∈ v :: vs) ↔ i ∈ vs := by
        simp only [List.mem_cons]
        exact ⟨fun z => z.elim (fun e => absurd e.symm hv) id, .inr⟩
      by_cases hm : i ∈ vs
      · rw [if_pos hm, if_pos (this.mpr hm)]
      · rw [if_neg hm, if_neg (fun z => hm (this.mp z))]
section
variable {K : PySem.W.Frag} {A A' : List Addr} {F F' G H : Hp} {S S' : Sx} {σ τ : L2.St}
theorem Ok.wipe {vs : List Nat} (k : Ok K A F H S τ) (e : L2.wipe τ vs = L2.wipe σ vs) : Ok K A F H ⟨wipeS S.sl vs, S.os⟩ (L2.wipe σ vs) := by
  refine ⟨k.sub, by rw [wipeS_len, k.len, ← e, wipe_length], k.alen, k.nd, fun i r h => ?_, k.cell, k.trk, k.tab⟩
  obtain ⟨h1, h2⟩ := wipeS_in h
  obtain ⟨v, e1, q⟩ := k.rslot i r h1
  exact ⟨v, by rw [← e, wipe_outV h2]; exact e1, q⟩
theorem Ok.back {vs : List Nat} (k0 : Ok K A F H S σ) (k : Ok K A' F' G ⟨wipeS S'.sl vs, S'.os⟩ (L2.wipe σ vs)) (p : A <+: A') (s : SameT F F') : Ok K A' F' G ⟨backS S.sl S'.sl vs, S'.os⟩ σ := by
  have hl : S.sl.length = S'.sl.length := by
    have := k.len
    rw [wipeS_len, wipe_length] at this
    rw [k0.len, this]
  refine ⟨k.sub, by rw [backS_len, ← hl]; exact k0.len, k.alen, k.nd, fun i r h => ?_, k.cell, k.trk, k.tab⟩
  simp only at h
  rw [backS_in hl] at h
  by_cases hi : i ∈ vs
  · rw [if_pos hi] at h
    obtain ⟨v, e1, q⟩ := k0.rslot i r h
    exact ⟨v, e1, q.mono p s _ _⟩
  · rw [if_neg hi] at h
    obtain ⟨v, e1, q⟩ := k.rslot i r (by simp only; rw [wipeS_out hi]; exact h)
    rw [wipe_outV hi] at e1
    exact ⟨v, e1, q⟩
/-- one list over a heap: what may be forgotten -/
theorem sub_one {p : Addr} {o : HO} (h : G p = none) (l : Loose o) : Sub G (upd G p o) := ⟨fun b u e => by rw [upd_ne (ne_of_none e h)]; exact e, fun b u e n => by
  by_cases hb : b = p
  · subst hb; rw [upd_same] at e; cases e; exact l
  · rw [upd_ne hb, n] at e; cases e⟩
theorem mix_one {G' : Hp} {p : Addr} {o : HO} (h : G p = none) (h' : G' p = none) : mixH G (upd G p o) G' = upd G' p o := by
  funext b
  by_cases hb : b = p
  · subst hb
    rw [mix_lost h upd_same, upd_same]
  · rw [upd_ne hb]
    cases q : G b with
    | some u => exact mix_held q
    | none => exact mix_free (by rw [upd_ne hb]; exact q)
end

/-! ### tests of a comprehension -/
structure GTs (X : Cx) (ifs : List Expr) (g : M Bool) : Prop where
  ex : ∃ t, PTs X ifs t ∧ RdT X.K t g
def gYes : M Bool := fun S => some (true, S)
theorem ts_nil {X : Cx} : GTs X [] gYes := ⟨_, pts_nil, fun A F H S σ b S' Q k e post => by cases e; exact post A F H (List.prefix_refl _) (SameT.refl F) k⟩
theorem ts_one {X : Cx} {c : Expr} {g : M Bool} (h : GT X c g) : GTs X [c] g := let ⟨_, p, r⟩ := h.ex; ⟨_, pts_one p, r⟩

/-! ### the turns of a comprehension -/
def gTurns (gg : D → Sx → Option Sx) (gt : M Bool) (ge : M D) (vs : List Nat) : List D → Sx → Option (List D × Sx)
  | [], S => some ([], S)
  | d :: ds, S => (gg d ⟨wipeS S.sl vs, S.os⟩).bind fun S1 => (gt S1).bind fun p =>
    if p.1 = true then (ge p.2).bind fun q => (gTurns gg gt ge vs ds q.2).bind fun r => some (q.1 :: r.1, r.2)
    else gTurns gg gt ge vs ds p.2
def gLc (gi : M (List D)) (gg : D → Sx → Option Sx) (gt : M Bool) (ge : M D) (vs : List Nat) : M D := fun S => (gi S).bind fun p => (gTurns gg gt ge vs p.1 p.2).bind fun r => some (.list r.1, ⟨backS p.2.sl r.2.sl vs, r.2.os⟩)
section
variable {K : PySem.W.Frag}
/-- a new list that is nobody's yet -/
def RdN (K : PySem.W.Frag) (t : TE) (g : M D) : Prop := ∀ A F H S σ d S' (Q : VK), Ok K A F H S σ → g S = some (d, S') →
  (∀ A' F' G p vs ds, A <+: A' → SameT F F' → Ok K A' F' G S' σ → G p = none → d = .list ds → Rps K F' vs ds → ds.length ≤ sizeLine → Q (.ref p) (upd G p (.lst vs))) → t σ H Q
theorem RdN.e {t : TE} {g : M D} (h : RdN K t g) : RdE K t g := by
  intro A F H S σ d S' Q k e post
  refine h A F H S σ d S' Q k e fun A1 F1 G p vs ds p1 s1 k1 hp ed r hz => ?_
  subst ed
  obtain ⟨s2, k2, r2⟩ := k1.newList hp r hz
  exact post A1 _ _ _ p1 (s1.trans s2) k2 r2
theorem rd_lc {wi : TI} {g : TG} {tt : TT} {te : TE} {gi : M (List D)} {gg : D → Sx → Option Sx} {gt : M Bool} {ge : M D} {tgt vs : List Nat} (hi : RdI K wi gi) (hg : RdG K tgt g gg) (ht : RdT K tt gt) (he : RdE K te ge) (hv : ∀ i ∈ tgt, i ∈ vs) :
    RdN K (tLc wi (gFr g) (tFrT tt) (tFr te) vs) (gLc gi gg gt ge vs) := by
  intro A F H S σ d S' Q k e post
  obtain ⟨⟨ds, S1⟩, e1, e⟩ := bind_inv e
  obtain ⟨⟨rs, S2⟩, e2, e⟩ := bind_inv e
  cases e
  refine hi A F H S σ ds S1 _ k e1 fun A1 F1 H1 J p1 s1 k1 w hz => fun L hL => ?_
  refine ⟨fun i m H => m = ds.length - i ∧ i ≤ ds.length ∧ ∃ A F G S acc us rest, SameT F1 F ∧ A1 <+: A ∧ Ok K A F G ⟨wipeS S.sl vs, S.os⟩ (wipe σ vs) ∧ G L = none ∧ H = upd G L (.lst us) ∧ Rps K F us acc ∧ acc.length ≤ i ∧
    gTurns gg gt ge vs (ds.drop i) S = some (rest, S2) ∧ acc ++ rest = rs, ⟨ds.length, by simp, Nat.zero_le _, A1, F1, H1, S1, [], [], rs, SameT.refl _, List.prefix_refl _, k1.wipe rfl, hL, rfl, .nil, Nat.le_refl _, by simpa using e2, rfl⟩, ?_⟩
  rintro i m H ⟨rfl, hil, A2, F2, G2, S3, acc, us, rest, s2, p2, k2, hG, rfl, ru, hla, et, ea⟩
  have sFH : SameT F1 (upd G2 L (.lst us)) := (s2.trans k2.sub.same.t).trans (same_upd hG)
  by_cases hlt : i < ds.length
  · refine .inr ⟨w.go i _ sFH hlt, fun H' => i + 1 ≤ ds.length ∧ ∃ A F G S acc us rest, SameT F1 F ∧ A1 <+: A ∧ Ok K A F G ⟨wipeS S.sl vs, S.os⟩ (wipe σ vs) ∧ G L = none ∧ H' = upd G L (.lst us) ∧ Rps K F us acc ∧ acc.length ≤ i + 1 ∧
      gTurns gg gt ge vs (ds.drop (i + 1)) S = some (rest, S2) ∧ acc ++ rest = rs, fun H' h => ⟨ds.length - (i + 1), by omega, rfl, h⟩, fun x H' hy => ?_⟩
    rw [List.drop_eq_getElem_cons hlt] at et
    obtain ⟨S4, e4, et⟩ := bind_inv (show (gg ds[i] ⟨wipeS S3.sl vs, S3.os⟩).bind _ = _ from et)
    obtain ⟨⟨b, S5⟩, e5, et⟩ := bind_inv et
    -- the item
    have key : ∃ F3 G3, SameT F2 F3 ∧ Ok K A2 F3 G3 ⟨wipeS S3.sl vs, S3.os⟩ (wipe σ vs) ∧ G3 L = none ∧ H' = upd G3 L (.lst us) ∧ Rp K F3 x ds[i] := by
      rcases w.yld i ds[i] _ x H' sFH (List.getElem?_eq_getElem hlt) hy with ⟨rfl, r⟩ | ⟨T, ws, es, rfl, hT, rfl, ed, r, hz2⟩
      · exact ⟨F2, G2, SameT.refl _, k2, hG, rfl, r.mono s2 _ _⟩
      · have hTL : T ≠ L := fun z => by subst z; rw [upd_same] at hT; cases hT
        have gT : G2 T = none := by rwa [upd_ne hTL] at hT
        obtain ⟨s3, k3, r3⟩ := k2.newTup gT (Rps.mono s2 _ _ r) hz2
        refine ⟨_, _, s3, k3, by rw [upd_ne (Ne.symm hTL)]; exact hG, ?_, by rw [ed]; exact r3⟩
        funext c
        by_cases h1 : c = T
        · subst h1; rw [upd_same, upd_ne hTL, upd_same]
        · rw [upd_ne h1]
          by_cases h2 : c = L
          · subst h2; rw [upd_same, upd_same]
          · rw [upd_ne h2, upd_ne h2, upd_ne h1]
    obtain ⟨F3, G3, s3, k3, hG3, rfl, rx⟩ := key
    refine ⟨G3, sub_one hG3 trivial, hg A2 F3 G3 _ _ x ds[i] S4 _ k3 rx e4 fun A4 F4 G4 σ4 p4 s4 k4 w4 => ⟨fun c xs q => ?_, fun lost => ?_⟩⟩
    · exact k4.sub.keep (k4.sub.same c _ (by
        have := k3.sub.keep q (fun z => z)
        exact s4.old c _ this trivial)) (fun z => z) |> fun z => k4.sub.same c _ z
    · have hG4 : G4 L = none := lost L _ upd_same hG3
      rw [mix_one hG3 hG4]
      refine ⟨(w4 vs hv).trans (by
        have : ∀ ws : List Nat, wipe (wipe σ ws) ws = wipe σ ws := by
          intro ws
          apply List.ext_getElem?
          intro n
          by_cases hn : n ∈ ws
          · have h1 : ∀ {τ : L2.St} {n : Nat} {ws : List Nat}, n ∈ ws → (wipe τ ws)[n]? = if n < τ.length then some none else none := by
              intro τ n ws
              induction ws with
              | nil => intro h; cases h
              | cons v ws ih =>
                intro h
                unfold wipe
                by_cases hv : v = n
                · subst hv
                  by_cases hl : v < τ.length
                  · rw [List.getElem?_set_self (by rw [wipe_length]; exact hl), if_pos hl]
                  · rw [List.getElem?_eq_none (by rw [List.length_set, wipe_length]; omega), if_neg hl]
                · rw [List.getElem?_set_ne hv]
                  exact ih ((List.mem_cons.mp h).resolve_left fun z => hv z.symm)
            rw [h1 hn, h1 hn, wipe_length]
          · rw [wipe_outV hn]
        exact this vs), G4, sub_one hG4 trivial, ht A4 F4 G4 S4 σ4 b S5 _ k4 e5 fun A5 F5 G5 p5 s5 k5 => ⟨fun c xs q => ?_, fun lost => ?_⟩⟩
      · exact k5.sub.same c _ (s5.old c _ (k4.sub.keep q (fun z => z)) trivial)
      · have hG5 : G5 L = none := lost L _ upd_same hG4
        rw [mix_one hG4 hG5]
        have w5 : wipe σ4 vs = wipe σ vs := (w4 vs hv).trans (by
          have h1 : ∀ {τ : L2.St} {n : Nat} {ws : List Nat}, n ∈ ws → (wipe τ ws)[n]? = if n < τ.length then some none else none := by
            intro τ n ws
            induction ws with
            | nil => intro h; cases h
            | cons v ws ih =>
              intro h
              unfold wipe
              by_cases hv : v = n
              · subst hv
                by_cases hl : v < τ.length
                · rw [List.getElem?_set_self (by rw [wipe_length]; exact hl), if_pos hl]
                · rw [List.getElem?_eq_none (by rw [List.length_set, wipe_length]; omega), if_neg hl]
              · rw [List.getElem?_set_ne hv]
                exact ih ((List.mem_cons.mp h).resolve_left fun z => hv z.symm)
          apply List.ext_getElem?
          intro n
          by_cases hn : n ∈ vs
          · rw [h1 hn, h1 hn, wipe_length]
          · rw [wipe_outV hn])
        cases b with
        | false =>
          rw [if_neg Bool.false_ne_true] at et
          show if false = true then _ else _
          rw [if_neg Bool.false_ne_true]
          exact ⟨hlt, A5, F5, G5, S5, acc, us, rest, s2.trans (s3.trans (s4.trans s5)), p2.trans (p4.trans p5), k5.wipe w5, hG5, rfl, Rps.mono (s3.trans (s4.trans s5)) _ _ ru, Nat.le_succ_of_le hla, et, ea⟩
        | true =>
          rw [if_pos rfl] at et
          show if true = true then _ else _
          rw [if_pos rfl]
          obtain ⟨⟨y, S6⟩, e6, et⟩ := bind_inv et
          obtain ⟨⟨rest', S7⟩, e7, et⟩ := bind_inv et
          cases et
          refine ⟨G5, sub_one hG5 trivial, he A5 F5 G5 S5 σ4 y S6 _ k5 e6 fun A6 F6 G6 v p6 s6 k6 r6 => ⟨fun c xs q => ?_, fun lost => ?_⟩⟩
          · exact k6.sub.same c _ (s6.old c _ (k5.sub.keep q (fun z => z)) trivial)
          · have hG6 : G6 L = none := lost L _ upd_same hG5
            rw [mix_one hG5 hG6]
            have ru' : Rps K F6 us acc := Rps.mono (s3.trans (s4.trans (s5.trans s6))) _ _ ru
            refine ⟨us, upd_same, ?_, hlt, A6, F6, G6, S6, acc ++ [y], us ++ [v], rest', s2.trans (s3.trans (s4.trans (s5.trans s6))), p2.trans (p4.trans (p5.trans p6)), k6.wipe w5, hG6, upd_upd, ru'.append (.cons r6 .nil), ?_, e7, ?_⟩
            · rw [ru'.length]
              omega
            · rw [List.length_append, List.length_singleton]
              omega
            · rw [← ea, List.append_assoc]; rfl
  · have ei : i = ds.length := by omega
    subst ei
    rw [List.drop_length] at et
    cases et
    refine .inl ⟨w.stop _ _ sFH (Nat.le_refl _), ?_⟩
    rw [List.append_nil] at ea
    subst ea
    exact post A2 F2 G2 L us acc (p1.trans p2) (s1.trans s2) (k1.back k2 p2 s2) hG rfl ru (Nat.le_trans hla hz)
end

/-! ### the one reading of each judgement -/
def tOf (K : PySem.W.Frag) (g : M D) : TE := fun σ H Q => ∃ A F S d S', Ok K A F H S σ ∧ g S = some (d, S') ∧ ∀ A' F' H' v, A <+: A' → SameT F F' → Ok K A' F' H' S' σ → Rp K F' v d → Q v H'
def ttOf (K : PySem.W.Frag) (g : M Bool) : TT := fun σ H Q => ∃ A F S d S', Ok K A F H S σ ∧ g S = some (d, S') ∧ ∀ A' F' H', A <+: A' → SameT F F' → Ok K A' F' H' S' σ → Q d H'
def gOf (K : PySem.W.Frag) (tgt : List Nat) (g : D → Sx → Option Sx) : TG := fun v σ H Q => ∃ A F S d S', Ok K A F H S σ ∧ Rp K F v d ∧ g d S = some S' ∧ ∀ A' F' H' σ', A <+: A' → SameT F F' → Ok K A' F' H' S' σ' → (∀ vs, (∀ i ∈ tgt, i ∈ vs) → wipe σ' vs = wipe σ vs) → Q σ' H'
def iOf (K : PySem.W.Frag) (g : M (List D)) : TI := fun σ H R => ∃ A F S ds S', Ok K A F H S σ ∧ g S = some (ds, S') ∧ ∀ A' F' H' J, A <+: A' → SameT F F' → Ok K A' F' H' S' σ → Walk K F' J ds → ds.length ≤ sizeLine → R J H'
theorem GE.pe {X : Cx} {e : Expr} {g : M D} (h : GE X e g) : PE X e (tOf X.K g) := by
  obtain ⟨t, p, r⟩ := h.ex
  exact ⟨fun pins s σ H Q I ⟨A, F, S, d, S', k, e, post⟩ => p.run pins s σ H Q I (r A F H S σ d S' Q k e post)⟩
theorem rd_of {K : PySem.W.Frag} {g : M D} : RdE K (tOf K g) g := fun A F H S σ d S' Q k e post => ⟨A, F, S, d, S', k, e, post⟩
theorem GTs.pts {X : Cx} {es : List Expr} {g : M Bool} (h : GTs X es g) : PTs X es (ttOf X.K g) := by
  obtain ⟨t, p, r⟩ := h.ex
  exact ⟨fun pins s σ H Q I ⟨A, F, S, d, S', k, e, post⟩ => p.run pins s σ H Q I (r A F H S σ d S' Q k e post)⟩
theorem rd_tof {K : PySem.W.Frag} {g : M Bool} : RdT K (ttOf K g) g := fun A F H S σ d S' Q k e post => ⟨A, F, S, d, S', k, e, post⟩
theorem GG.pg {X : Cx} {tgt : List Nat} {e : Expr} {g : D → Sx → Option Sx} (h : GG X tgt e g) : PG X e (gOf X.K tgt g) := by
  obtain ⟨t, p, r⟩ := h.ex
  exact ⟨fun pins s σ H v u Q I rv ⟨A, F, S, d, S', k, rd, e, post⟩ => p.run pins s σ H v u Q I rv (r A F H S σ v d S' Q k rd e post)⟩
theorem rd_gof {K : PySem.W.Frag} {tgt : List Nat} {g : D → Sx → Option Sx} : RdG K tgt (gOf K tgt g) g := fun A F H S σ v d S' Q k r e post => ⟨A, F, S, d, S', k, r, e, post⟩
theorem GI.pi {X : Cx} {tg e : Expr} {g : M (List D)} (h : GI X tg e g) : PI X tg e (iOf X.K g) := by
  obtain ⟨t, p, r⟩ := h.ex
  exact ⟨fun pins s σ H R I ⟨A, F, S, d, S', k, e, post⟩ => p.run pins s σ H R I (r A F H S σ d S' R k e post)⟩
theorem rd_iof {K : PySem.W.Frag} {g : M (List D)} : RdI K (iOf K g) g := fun A F H S σ d S' Q k e post => ⟨A, F, S, d, S', k, e, post⟩

/-! ### comprehensions -/
section
variable {X : Cx} {pos : Pos} {elt tg iter : Expr} {ifs : List Expr} {scope : Scope} {gi : M (List D)} {gg : D → Sx → Option Sx} {gt : M Bool} {ge : M D} {tgt : List Nat}
/-- the block of a comprehension, wherever it stands -/
abbrev InBlk (X : Cx) (scope : Scope) (P : Cx → Prop) : Prop := ∀ (s : Shared) (H : Hp) (C : Addr) (cl : List (Str × Addr)) (fp : List Addr), P (X.blk s H scope (compEnvC scope cl C X.env) fp)
structure GN (X : Cx) (e : Expr) (g : M D) : Prop where
  ex : ∃ t, PE X e t ∧ RdN X.K t g
theorem GN.e {X : Cx} {e : Expr} {g : M D} (h : GN X e g) : GE X e g := let ⟨_, p, r⟩ := h.ex; ⟨_, p, r.e⟩
theorem n_lc (own : List (Str × Nat)) (hN : X.N.Nodup) (hi : GI X tg iter gi) (ok : BlkOk X.N X.env.scope scope own) (hg : InBlk X scope fun Y => GG Y tgt tg gg) (ht : InBlk X scope fun Y => GTs Y ifs gt) (he : InBlk X scope fun Y => GE Y elt ge)
    (hv : ∀ i ∈ tgt, i ∈ own.map (·.2) := by decide) (hc : X.calm = true := by rfl) (hs : ∀ x, foldedSetIterable iter X.env x = pure x := by intro _; rfl) : GN X (.ListComp elt [⟨tg, iter, ifs, 0⟩] scope pos) (gLc gi gg gt ge (own.map (·.2))) :=
  ⟨_, pe_lc hc hN hi.pi ok (fun s H C cl fp => pg_fr (hg s H C cl fp).pg) (fun s H C cl fp => pts_fr (ht s H C cl fp).pts) (fun s H C cl fp => pe_fr (he s H C cl fp).pe) hs, rd_lc rd_iof rd_gof rd_tof rd_of hv⟩
end
end Fu

set_option maxHeartbeats 4000000
namespace Fu
open PySem PySem.Spec PyProof.Rows L2 RZ
variable [TabsC]

theorem wipe_at {τ : L2.St} {n : Nat} : ∀ {ws : List Nat}, n ∈ ws → (wipe τ ws)[n]? = if n < τ.length then some none else none
  | v :: ws, h => by
    unfold wipe
    by_cases hv : v = n
    · subst hv
      by_cases hl : v < τ.length
      · rw [List.getElem?_set_self (by rw [wipe_length]; exact hl), if_pos hl]
      · rw [List.getElem?_eq_none (by rw [List.length_set, wipe_length]; omega), if_neg hl]
    · rw [List.getElem?_set_ne hv]
      exact wipe_at ((List.mem_cons.mp h).resolve_left fun z => hv z.symm)
theorem wipe_wipe (σ : L2.St) (ws : List Nat) : wipe (wipe σ ws) ws = wipe σ ws := by
  apply List.ext_getElem?
  intro n
  by_cases hn : n ∈ ws
  · rw [wipe_at hn, wipe_at hn, wipe_length]
  · rw [wipe_outV hn]
/-- wiped twice, the second time less -/
theorem wipe_less {σ τ : L2.St} {vs ws : List Nat} (h : ∀ i ∈ ws, i ∈ vs) (e : wipe τ ws = wipe σ ws) : wipe τ vs = wipe σ vs := by
  have hl : τ.length = σ.length := by
    have := congrArg List.length e
    rwa [wipe_length, wipe_length] at this
  apply List.ext_getElem?
  intro n
  by_cases hn : n ∈ vs
  · rw [wipe_at hn, wipe_at hn, hl]
  · rw [wipe_outV hn, wipe_outV hn]
    have hw : n ∉ ws := fun z => hn (h n z)
    have := congrArg (fun l => l[n]?) e
    have h2 : (wipe τ ws)[n]? = (wipe σ ws)[n]? := this
    rwa [wipe_outV hw, wipe_outV hw] at h2
section
variable {K : PySem.W.Frag}
theorem yld_ok {A : List Addr} {F1 F2 G2 : Hp} {S : Sx} {τ : L2.St} {J : It} {ds : List D} {L : Addr} {us : List V} {i : Nat} {d : D} {x : V} {H' : Hp} (w : Walk K F1 J ds) (s2 : SameT F1 F2) (k2 : Ok K A F2 G2 S τ) (hG : G2 L = none) (hi : ds[i]? = some d)
    (hy : J.yld i (upd G2 L (.lst us)) x H') : ∃ F3 G3, SameT F2 F3 ∧ Ok K A F3 G3 S τ ∧ G3 L = none ∧ H' = upd G3 L (.lst us) ∧ Rp K F3 x d := by
  have sFH : SameT F1 (upd G2 L (.lst us)) := (s2.trans k2.sub.same.t).trans (same_upd hG)
  rcases w.yld i d _ x H' sFH hi hy with ⟨rfl, r⟩ | ⟨T, ws, es, rfl, hT, rfl, ed, r, hz2⟩
  · exact ⟨F2, G2, SameT.refl _, k2, hG, rfl, r.mono s2 _ _⟩
  · have hTL : T ≠ L := fun z => by subst z; rw [upd_same] at hT; cases hT
    have gT : G2 T = none := by rwa [upd_ne hTL] at hT
    obtain ⟨s3, k3, r3⟩ := k2.newTup gT (Rps.mono s2 _ _ r) hz2
    refine ⟨_, _, s3, k3, by rw [upd_ne (Ne.symm hTL)]; exact hG, ?_, by rw [ed]; exact r3⟩
    funext c
    by_cases h1 : c = T
    · subst h1; rw [upd_same, upd_ne hTL, upd_same]
    · rw [upd_ne h1]
      by_cases h2 : c = L
      · subst h2; rw [upd_same, upd_same]
      · rw [upd_ne h2, upd_ne h2, upd_ne h1]
theorem tup_keep {F F' G G' : Hp} (s1 : Sub F G) (s : SameT F F') (s2 : Sub F' G') : ∀ b xs, G b = some (.tup xs) → G' b = some (.tup xs) := fun b xs q =>
  s2.same b _ (s.old b _ (s1.keep q (fun z => z)) trivial)
end
/-- what is walked, over a part of the heap -/
theorem pi_fr {X : Cx} {tg e : Expr} {t : TI} (h : PI X tg e t) : PI X tg e (iFr t) := by
  refine ⟨fun pins s σ H R I ⟨G, S, q⟩ => ?_⟩
  refine thn (h.run _ s σ G _ (forget I S) q) fun v s1 h1 => thn h1 fun itv s2 h2 => ?_
  obtain ⟨it, fp, tn, J, G', e1, J1, T, st, hf, ht, hq⟩ := h2
  refine ⟨it, fp, tn, J, mixH G H G', e1, remember I S J1 ht, T, st, fun b hb => ?_, hq (lost_of I S J1)⟩
  obtain ⟨f0, f1, f2, f3, f4, f5⟩ := hf b hb
  refine ⟨?_, f1, f2, f3, f4, fun p hp => f5 p ((List.mem_append.mp hp).elim (fun z => List.mem_append_left _ z) fun z => List.mem_append_right _ (List.mem_append_left _ z))⟩
  cases q1 : G b with
  | some u => rw [mix_held q1]; exact f0
  | none =>
    cases q2 : H b with
    | none => rw [mix_free q2]; exact f0
    | some u =>
      obtain ⟨ob, hob⟩ := loose_there (I.hok b u q2) (S.loose b u q2 q1)
      exact absurd rfl (f5 (b, ob) (List.mem_append_right _ (List.mem_append_right _ (mem_lpins q2 q1 hob))))

/-! ### two clauses -/
def gTurns2 (gg : D → Sx → Option Sx) (gt : M Bool) (gi1 : M (List D)) (gg1 : D → Sx → Option Sx) (gt1 : M Bool) (ge : M D) (vs vs1 : List Nat) : List D → Sx → Option (List D × Sx)
  | [], S => some ([], S)
  | d :: ds, S => (gg d ⟨wipeS S.sl vs, S.os⟩).bind fun S1 => (gt S1).bind fun p =>
    if p.1 = true then (gi1 p.2).bind fun q => (gTurns gg1 gt1 ge vs1 q.1 q.2).bind fun r => (gTurns2 gg gt gi1 gg1 gt1 ge vs vs1 ds r.2).bind fun t => some (r.1 ++ t.1, t.2)
    else gTurns2 gg gt gi1 gg1 gt1 ge vs vs1 ds p.2
def gLc2 (gi : M (List D)) (gg : D → Sx → Option Sx) (gt : M Bool) (gi1 : M (List D)) (gg1 : D → Sx → Option Sx) (gt1 : M Bool) (ge : M D) (vs vs1 : List Nat) : M D := fun S => (gi S).bind fun p =>
  (gTurns2 gg gt gi1 gg1 gt1 ge vs vs1 p.1 p.2).bind fun r => if r.1.length ≤ sizeLine then some (.list r.1, ⟨backS p.2.sl r.2.sl vs, r.2.os⟩) else none
section
variable {K : PySem.W.Frag}
theorem rd_lc2 {wi wi1 : TI} {g g1 : TG} {tt tt1 : TT} {te : TE} {gi gi1 : M (List D)} {gg gg1 : D → Sx → Option Sx} {gt gt1 : M Bool} {ge : M D} {tgt tgt1 vs vs1 : List Nat} (hi : RdI K wi gi) (hg : RdG K tgt g gg) (ht : RdT K tt gt)
    (hi1 : RdI K wi1 gi1) (hg1 : RdG K tgt1 g1 gg1) (ht1 : RdT K tt1 gt1) (he : RdE K te ge) (hv : ∀ i ∈ tgt, i ∈ vs) (hv1 : ∀ i ∈ tgt1, i ∈ vs1) (hvv : ∀ i ∈ vs1, i ∈ vs) :
    RdN K (tLc2 wi (gFr g) (tFrT tt) (iFr wi1) (gFr g1) (tFrT tt1) (tFr te) vs vs1) (gLc2 gi gg gt gi1 gg1 gt1 ge vs vs1) := by
  intro A F H S σ d S' Q k e post
  obtain ⟨⟨ds, S1⟩, e1, e⟩ := bind_inv e
  obtain ⟨⟨rs, S2⟩, e2, e⟩ := bind_inv e
  simp only at e
  split at e
  case isFalse => cases e
  rename_i hrs
  cases e
  refine hi A F H S σ ds S1 _ k e1 fun A1 F1 H1 J p1 s1 k1 w hz => fun L hL => ?_
  refine ⟨fun i m H => m = ds.length - i ∧ i ≤ ds.length ∧ ∃ A F G S acc us rest, SameT F1 F ∧ A1 <+: A ∧ Ok K A F G ⟨wipeS S.sl vs, S.os⟩ (wipe σ vs) ∧ G L = none ∧ H = upd G L (.lst us) ∧ Rps K F us acc ∧
    gTurns2 gg gt gi1 gg1 gt1 ge vs vs1 (ds.drop i) S = some (rest, S2) ∧ acc ++ rest = rs, ⟨ds.length, by simp, Nat.zero_le _, A1, F1, H1, S1, [], [], rs, SameT.refl _, List.prefix_refl _, k1.wipe rfl, hL, rfl, .nil, by simpa using e2, rfl⟩, ?_⟩
  rintro i m H ⟨rfl, hil, A2, F2, G2, S3, acc, us, rest, s2, p2, k2, hG, rfl, ru, et, ea⟩
  have sFH : SameT F1 (upd G2 L (.lst us)) := (s2.trans k2.sub.same.t).trans (same_upd hG)
  by_cases hlt : i < ds.length
  · refine .inr ⟨w.go i _ sFH hlt, fun H' => i + 1 ≤ ds.length ∧ ∃ A F G S acc us rest, SameT F1 F ∧ A1 <+: A ∧ Ok K A F G ⟨wipeS S.sl vs, S.os⟩ (wipe σ vs) ∧ G L = none ∧ H' = upd G L (.lst us) ∧ Rps K F us acc ∧
      gTurns2 gg gt gi1 gg1 gt1 ge vs vs1 (ds.drop (i + 1)) S = some (rest, S2) ∧ acc ++ rest = rs, fun H' h => ⟨ds.length - (i + 1), by omega, rfl, h⟩, fun x H' hy => ?_⟩
    rw [List.drop_eq_getElem_cons hlt] at et
    obtain ⟨S4, e4, et⟩ := bind_inv (show (gg ds[i] ⟨wipeS S3.sl vs, S3.os⟩).bind _ = _ from et)
    obtain ⟨⟨b, S5⟩, e5, et⟩ := bind_inv et
    obtain ⟨F3, G3, s3, k3, hG3, rfl, rx⟩ := yld_ok w s2 k2 hG (List.getElem?_eq_getElem hlt) hy
    refine ⟨G3, sub_one hG3 trivial, hg A2 F3 G3 _ _ x ds[i] S4 _ k3 rx e4 fun A4 F4 G4 σ4 p4 s4 k4 w4 => ⟨tup_keep k3.sub s4 k4.sub, fun lost => ?_⟩⟩
    have hG4 : G4 L = none := lost L _ upd_same hG3
    rw [mix_one hG3 hG4]
    have w5 : wipe σ4 vs = wipe σ vs := (w4 vs hv).trans (wipe_wipe σ vs)
    refine ⟨by rw [w5], G4, sub_one hG4 trivial, ht A4 F4 G4 S4 σ4 b S5 _ k4 e5 fun A5 F5 G5 p5 s5 k5 => ⟨tup_keep k4.sub s5 k5.sub, fun lost => ?_⟩⟩
    have hG5 : G5 L = none := lost L _ upd_same hG4
    rw [mix_one hG4 hG5]
    have s35 : SameT F2 F5 := s3.trans (s4.trans s5)
    cases b with
    | false =>
      rw [if_neg Bool.false_ne_true] at et
      show if false = true then _ else _
      rw [if_neg Bool.false_ne_true]
      exact ⟨hlt, A5, F5, G5, S5, acc, us, rest, s2.trans s35, p2.trans (p4.trans p5), k5.wipe w5, hG5, rfl, Rps.mono s35 _ _ ru, et, ea⟩
    | true =>
      rw [if_pos rfl] at et
      show if true = true then _ else _
      rw [if_pos rfl]
      obtain ⟨⟨ds1, S6⟩, e6, et⟩ := bind_inv et
      obtain ⟨⟨rs1, S7⟩, e7, et⟩ := bind_inv et
      obtain ⟨⟨rest', S8⟩, e8, et⟩ := bind_inv et
      cases et
      refine ⟨G5, sub_one hG5 trivial, hi1 A5 F5 G5 S5 σ4 ds1 S6 _ k5 e6 fun A6 F6 G6 J1 p6 s6 k6 w6 hz6 => ⟨tup_keep k5.sub s6 k6.sub, fun lost => ?_⟩⟩
      have hG6 : G6 L = none := lost L _ upd_same hG5
      rw [mix_one hG5 hG6]
      have s36 : SameT F2 F6 := s35.trans s6
      refine ⟨fun j m H => m = ds1.length - j ∧ j ≤ ds1.length ∧ ∃ A F G S acc us rest, SameT F6 F ∧ A6 <+: A ∧ Ok K A F G ⟨wipeS S.sl vs1, S.os⟩ (wipe σ4 vs1) ∧ G L = none ∧ H = upd G L (.lst us) ∧ Rps K F us acc ∧
        gTurns gg1 gt1 ge vs1 (ds1.drop j) S = some (rest, S7) ∧ acc ++ (rest ++ rest') = rs, ⟨ds1.length, by simp, Nat.zero_le _, A6, F6, G6, S6, acc, us, rs1, SameT.refl _, List.prefix_refl _, k6.wipe rfl, hG6, rfl, Rps.mono s36 _ _ ru, by simpa using e7, ea⟩, ?_⟩
      rintro j m H ⟨rfl, hjl, A7, F7, G7, S9, acc7, us7, rest7, s7, p7, k7, hG7, rfl, ru7, et7, ea7⟩
      have sFH7 : SameT F6 (upd G7 L (.lst us7)) := (s7.trans k7.sub.same.t).trans (same_upd hG7)
      by_cases hlt7 : j < ds1.length
      · refine .inr ⟨w6.go j _ sFH7 hlt7, fun H' => j + 1 ≤ ds1.length ∧ ∃ A F G S acc us rest, SameT F6 F ∧ A6 <+: A ∧ Ok K A F G ⟨wipeS S.sl vs1, S.os⟩ (wipe σ4 vs1) ∧ G L = none ∧ H' = upd G L (.lst us) ∧ Rps K F us acc ∧
          gTurns gg1 gt1 ge vs1 (ds1.drop (j + 1)) S = some (rest, S7) ∧ acc ++ (rest ++ rest') = rs, fun H' h => ⟨ds1.length - (j + 1), by omega, rfl, h⟩, fun y H' hy7 => ?_⟩
        rw [List.drop_eq_getElem_cons hlt7] at et7
        obtain ⟨S10, e10, et7⟩ := bind_inv (show (gg1 ds1[j] ⟨wipeS S9.sl vs1, S9.os⟩).bind _ = _ from et7)
        obtain ⟨⟨b7, S11⟩, e11, et7⟩ := bind_inv et7
        obtain ⟨F8, G8, s8, k8, hG8, rfl, rx8⟩ := yld_ok w6 s7 k7 hG7 (List.getElem?_eq_getElem hlt7) hy7
        refine ⟨G8, sub_one hG8 trivial, hg1 A7 F8 G8 _ _ y ds1[j] S10 _ k8 rx8 e10 fun A9 F9 G9 σ9 p9 s9 k9 w9 => ⟨tup_keep k8.sub s9 k9.sub, fun lost => ?_⟩⟩
        have hG9 : G9 L = none := lost L _ upd_same hG8
        rw [mix_one hG8 hG9]
        have w10 : wipe σ9 vs1 = wipe σ4 vs1 := (w9 vs1 hv1).trans (wipe_wipe σ4 vs1)
        refine ⟨w10, G9, sub_one hG9 trivial, ht1 A9 F9 G9 S10 σ9 b7 S11 _ k9 e11 fun A10 F10 G10 p10 s10 k10 => ⟨tup_keep k9.sub s10 k10.sub, fun lost => ?_⟩⟩
        have hG10 : G10 L = none := lost L _ upd_same hG9
        rw [mix_one hG9 hG10]
        have s710 : SameT F7 F10 := s8.trans (s9.trans s10)
        cases b7 with
        | false =>
          rw [if_neg Bool.false_ne_true] at et7
          show if false = true then _ else _
          rw [if_neg Bool.false_ne_true]
          exact ⟨hlt7, A10, F10, G10, S11, acc7, us7, rest7, s7.trans s710, p7.trans (p9.trans p10), k10.wipe w10, hG10, rfl, Rps.mono s710 _ _ ru7, et7, ea7⟩
        | true =>
          rw [if_pos rfl] at et7
          show if true = true then _ else _
          rw [if_pos rfl]
          obtain ⟨⟨z, S12⟩, e12, et7⟩ := bind_inv et7
          obtain ⟨⟨rest8, S13⟩, e13, et7⟩ := bind_inv et7
          cases et7
          refine ⟨G10, sub_one hG10 trivial, he A10 F10 G10 S11 σ9 z S12 _ k10 e12 fun A11 F11 G11 v p11 s11 k11 r11 => ⟨tup_keep k10.sub s11 k11.sub, fun lost => ?_⟩⟩
          have hG11 : G11 L = none := lost L _ upd_same hG10
          rw [mix_one hG10 hG11]
          have ru' : Rps K F11 us7 acc7 := Rps.mono (s710.trans s11) _ _ ru7
          refine ⟨us7, upd_same, ?_, hlt7, A11, F11, G11, S12, acc7 ++ [z], us7 ++ [v], rest8, s7.trans (s710.trans s11), p7.trans (p9.trans (p10.trans p11)), k11.wipe w10, hG11, upd_upd, ru'.append (.cons r11 .nil), e13, ?_⟩
          · rw [ru'.length]
            have := congrArg List.length ea7
            simp only [List.length_append, List.length_cons] at this
            omega
          · rw [← ea7, List.append_assoc]; rfl
      · have ej : j = ds1.length := by omega
        subst ej
        rw [List.drop_length] at et7
        cases et7
        refine .inl ⟨w6.stop _ _ sFH7 (Nat.le_refl _), hlt, A7, F7, G7, S7, acc7, us7, rest', s2.trans (s36.trans s7), p2.trans (p4.trans (p5.trans (p6.trans p7))), ?_, hG7, rfl, ru7, e8, by simpa using ea7⟩
        -- wiped less becomes wiped more
        have k8 := k7.wipe (σ := σ) (vs := vs) ((wipe_less hvv (wipe_wipe σ4 vs1)).trans w5)
        have e9 : wipeS (wipeS S7.sl vs1) vs = wipeS S7.sl vs := by
          apply List.ext_getElem?
          intro n
          have at_ : ∀ {sl : List (Option R)} {n : Nat} {ws : List Nat}, n ∈ ws → (wipeS sl ws)[n]? = if n < sl.length then some none else none := by
            intro sl n ws
            induction ws with
            | nil => intro h; cases h
            | cons v ws ih =>
              intro h
              unfold wipeS
              by_cases hv : v = n
              · subst hv
                by_cases hl : v < sl.length
                · rw [List.getElem?_set_self (by rw [wipeS_len]; exact hl), if_pos hl]
                · rw [List.getElem?_eq_none (by rw [List.length_set, wipeS_len]; omega), if_neg hl]
              · rw [List.getElem?_set_ne hv]
                exact ih ((List.mem_cons.mp h).resolve_left fun z => hv z.symm)
          by_cases hn : n ∈ vs
          · rw [at_ hn, at_ hn, wipeS_len]
          · rw [wipeS_out hn, wipeS_out hn, wipeS_out fun z => hn (hvv n z)]
        simp only [e9] at k8
        exact k8
  · have ei : i = ds.length := by omega
    subst ei
    rw [List.drop_length] at et
    cases et
    refine .inl ⟨w.stop _ _ sFH (Nat.le_refl _), ?_⟩
    rw [List.append_nil] at ea
    subst ea
    exact post A2 F2 G2 L us acc (p1.trans p2) (s1.trans s2) (k1.back k2 p2 s2) hG rfl ru hrs
end
section
variable {X : Cx} {pos : Pos} {elt tg iter tg1 iter1 : Expr} {ifs ifs1 : List Expr} {scope : Scope} {gi gi1 : M (List D)} {gg gg1 : D → Sx → Option Sx} {gt gt1 : M Bool} {ge : M D} {tgt tgt1 : List Nat}
theorem n_lc2 (own : List (Str × Nat)) (vs1 : List Nat) (hN : X.N.Nodup) (hi : GI X tg iter gi) (ok : BlkOk X.N X.env.scope scope own) (hg : InBlk X scope fun Y => GG Y tgt tg gg) (ht : InBlk X scope fun Y => GTs Y ifs gt)
    (hi1 : InBlk X scope fun Y => GI Y tg1 iter1 gi1) (hg1 : InBlk X scope fun Y => GG Y tgt1 tg1 gg1) (ht1 : InBlk X scope fun Y => GTs Y ifs1 gt1) (he : InBlk X scope fun Y => GE Y elt ge)
    (hv : ∀ i ∈ tgt, i ∈ own.map (·.2) := by decide) (hv1 : ∀ i ∈ tgt1, i ∈ vs1 := by decide) (hvv : ∀ i ∈ vs1, i ∈ own.map (·.2) := by decide) (hc : X.calm = true := by rfl) (hs : ∀ x, foldedSetIterable iter X.env x = pure x := by intro _; rfl) (hs1 : ∀ env x, foldedSetIterable iter1 env x = pure x := by intro _ _; rfl) :
    GN X (.ListComp elt [⟨tg, iter, ifs, 0⟩, ⟨tg1, iter1, ifs1, 0⟩] scope pos) (gLc2 gi gg gt gi1 gg1 gt1 ge (own.map (·.2)) vs1) :=
  ⟨_, pe_lc2 hc hN hi.pi ok hvv (fun s H C cl fp => pg_fr (hg s H C cl fp).pg) (fun s H C cl fp => pts_fr (ht s H C cl fp).pts) (fun s H C cl fp => pi_fr (hi1 s H C cl fp).pi) (fun s H C cl fp => pg_fr (hg1 s H C cl fp).pg)
    (fun s H C cl fp => pts_fr (ht1 s H C cl fp).pts) (fun s H C cl fp => pe_fr (he s H C cl fp).pe) hs hs1, rd_lc2 rd_iof rd_gof rd_tof rd_iof rd_gof rd_tof rd_of hv hv1 hvv⟩
end
end Fu

set_option maxHeartbeats 4000000
namespace Fu
open PySem PySem.Spec PyProof.Rows L2 RZ
variable [TabsC]

/-! ### statements -/
inductive Out where
  | nx (S : Sx)
  | rt (d : D) (S : Sx)
  | bk (S : Sx)
  | ct (S : Sx)
  | ro (j : Nat) (S : Sx)
  | rs (r : R) (S : Sx)
/-- what a statement's end hands on; B: what stands for good, A0: the cells that were there -/
def OutP (K : PySem.W.Frag) (B : Hp) (A0 : List Addr) (o : Out) (E : Ends) : Prop := match o with
  | .nx S' => ∀ A F H σ, SameT B F → A0 <+: A → Ok K A F H S' σ → E.nx σ H
  | .rt d S' => ∀ A F H σ v, SameT B F → A0 <+: A → Ok K A F H S' σ → Rp K F v d → E.rt v H
  | .bk S' => ∀ A F H σ, SameT B F → A0 <+: A → Ok K A F H S' σ → E.bk σ H
  | .ct S' => ∀ A F H σ, SameT B F → A0 <+: A → Ok K A F H S' σ → E.ct σ H
  | .ro j S' => ∀ A F H σ a, SameT B F → A0 <+: A → Ok K A F H S' σ → A[j]? = some a → E.rt (.ref a) H
  | .rs r S' => ∀ A F H σ v, SameT B F → A0 <+: A → Ok K A F H S' σ → Rr K A F v r → E.rt v H
def RdS (K : PySem.W.Frag) (P : Hp → Prop) (t : TS) (g : Sx → Option Out) : Prop := ∀ B A0 A F H S σ o (E : Ends), P B → SameT B F → A0 <+: A → Ok K A F H S σ → g S = some o → OutP K B A0 o E → t E σ H
structure GS (X : Cx) (P : Hp → Prop) (st : Stmt) (g : Sx → Option Out) : Prop where
  ex : ∃ t, PS X st t ∧ RdS X.K P t g
structure GSs (X : Cx) (P : Hp → Prop) (st : List Stmt) (g : Sx → Option Out) : Prop where
  ex : ∃ t, PSs X st t ∧ RdS X.K P t g
def qNx : Sx → Option Out := fun S => some (.nx S)
def qSeq (g h : Sx → Option Out) : Sx → Option Out := fun S => (g S).bind fun o => match o with
  | .nx S1 => h S1
  | o => some o
def qDrop (g : M D) : Sx → Option Out := fun S => (g S).bind fun p => some (.nx p.2)
def qRet (g : M D) : Sx → Option Out := fun S => (g S).bind fun p => some (.rt p.1 p.2)
def qRetN : Sx → Option Out := fun S => some (.rt .none S)
def qIf (t : M Bool) (g h : Sx → Option Out) : Sx → Option Out := fun S => (t S).bind fun p => if p.1 = true then g p.2 else h p.2
def qSet (i : Nat) (g : M D) : Sx → Option Out := fun S => (g S).bind fun p => some (.nx ⟨p.2.sl.set i (some (.dat p.1)), p.2.os⟩)
def qAsg (gg : D → Sx → Option Sx) (g : M D) : Sx → Option Out := fun S => (g S).bind fun p => (gg p.1 p.2).bind fun S1 => some (.nx S1)
/-- a new list of one's own -/
def qOwn (i : Nat) (g : M D) : Sx → Option Out := fun S => (g S).bind fun p => match p.1 with
  | .list ds => some (.nx ⟨p.2.sl.set i (some (.own p.2.os.length)), p.2.os ++ [some (.lst ds)]⟩)
  | _ => none
def qNone : Sx → Option Out := fun _ => none
section
variable {X : Cx} {P : Hp → Prop} {st : Stmt} {sts : List Stmt} {g h : Sx → Option Out} {e : Expr} {ge : M D} {pos : Pos}
theorem ss_nil : GSs X P [] qNx := ⟨_, pss_nil, fun B A0 A F H S σ o E hP s p k e post => by cases e; exact post A F H σ s p k⟩
theorem rd_seq {K : PySem.W.Frag} {t u : TS} (hg : RdS K P t g) (hh : RdS K P u h) : RdS K P (tSeq t u) (qSeq g h) := by
  intro B A0 A F H S σ o E hP s p k e post
  obtain ⟨o1, e1, e⟩ := bind_inv e
  refine hg B A0 A F H S σ o1 _ hP s p k e1 ?_
  cases o1 with
  | nx S1 => exact fun A1 F1 H1 σ1 s1 p1 k1 => hh B A0 A1 F1 H1 S1 σ1 o E hP s1 p1 k1 e post
  | rt d S1 => cases e; exact post
  | bk S1 => cases e; exact post
  | ct S1 => cases e; exact post
  | ro j S1 => cases e; exact post
  | rs r S1 => cases e; exact post
theorem ss_cons (h1 : GS X P st g) (h2 : GSs X P sts h) : GSs X P (st :: sts) (qSeq g h) :=
  let ⟨_, p1, r1⟩ := h1.ex; let ⟨_, p2, r2⟩ := h2.ex; ⟨_, pss_cons p1 p2, rd_seq r1 r2⟩
theorem ss_one (h1 : GS X P st g) : GSs X P [st] g := let ⟨_, p1, r1⟩ := h1.ex; ⟨_, pss_one p1, r1⟩
theorem s_never : GS X P st qNone := ⟨_, ps_never, fun B A0 A F H S σ o E hP s p k e post => by cases e⟩
theorem s_expr (he : GE X e ge) (hs : swapsWith e none pos.line X.env = pure false := by rfl) : GS X P (.Expr e pos) (qDrop ge) := by
  obtain ⟨t, p1, r1⟩ := he.ex
  refine ⟨_, ps_expr p1 hs, fun B A0 A F H S σ o E hP s p k e post => ?_⟩
  obtain ⟨⟨d, S1⟩, e1, e⟩ := bind_inv e
  cases e
  exact r1 A F H S σ d S1 _ k e1 fun A1 F1 H1 v p1 s1 k1 _ => post A1 F1 H1 σ (s.trans s1) (p.trans p1) k1
theorem s_ret (he : GE X e ge) : GS X P (.Return (some e) pos) (qRet ge) := by
  obtain ⟨t, p1, r1⟩ := he.ex
  refine ⟨_, ps_ret p1, fun B A0 A F H S σ o E hP s p k e post => ?_⟩
  obtain ⟨⟨d, S1⟩, e1, e⟩ := bind_inv e
  cases e
  exact r1 A F H S σ d S1 _ k e1 fun A1 F1 H1 v p1 s1 k1 rv => post A1 F1 H1 σ v (s.trans s1) (p.trans p1) k1 rv
theorem s_if {c : Expr} {a b : List Stmt} {gt : M Bool} (hc : GT X c gt) (ha : GSs X P a g) (hb : GSs X P b h) : GS X P (.If c a b pos) (qIf gt g h) := by
  obtain ⟨t, pc, rc⟩ := hc.ex
  obtain ⟨_, pa, ra⟩ := ha.ex
  obtain ⟨_, pb, rb⟩ := hb.ex
  refine ⟨_, ps_if pc pa pb, fun B A0 A F H S σ o E hP s p k e post => ?_⟩
  obtain ⟨⟨x, S1⟩, e1, e⟩ := bind_inv e
  refine rc A F H S σ x S1 _ k e1 fun A1 F1 H1 p1 s1 k1 => ?_
  cases x with
  | true => exact ra B A0 A1 F1 H1 S1 σ o E hP (s.trans s1) (p.trans p1) k1 e post
  | false => exact rb B A0 A1 F1 H1 S1 σ o E hP (s.trans s1) (p.trans p1) k1 e post
theorem rd_asgN {K : PySem.W.Frag} {t : TE} (i : Nat) (r : RdE K t ge) : RdS K P (tAsg t (gName i)) (qSet i ge) := by
  intro B A0 A F H S σ o E hP s p k e post
  obtain ⟨⟨d, S1⟩, e1, e⟩ := bind_inv e
  cases e
  exact r A F H S σ d S1 _ k e1 fun A1 F1 H1 v p1 s1 k1 rv => post A1 F1 H1 _ (s.trans s1) (p.trans p1) (k1.setDat rv)
theorem s_set {x : Str} {pos' : Pos} (i : Nat) (hN : X.N.Nodup) (he : GE X e ge) (hx : Loc X.env.scope x := by first | exact Or.inl rfl | exact Or.inr rfl) (hi : X.N[i]? = some x := by rfl) (hs : swapsWith e (some (.Name x pos')) pos.line X.env = pure false := by rfl)
    (hf : X.fn x = true ∨ X.env.scope.names.lookup x = some .local := by first | exact .inl rfl | exact .inr rfl | assumption) : GS X P (.Assign [.Name x pos'] e pos) (qSet i ge) :=
  let ⟨_, p1, r1⟩ := he.ex; ⟨_, ps_set hN hi hx p1 hs hf, rd_asgN i r1⟩
/-- a, b = x, y -/
def qPar (i j : Nat) (g : M (List D)) : Sx → Option Out := fun S => (g S).bind fun p => match p.1 with
  | [d, e] => some (.nx ⟨(p.2.sl.set i (some (.dat d))).set j (some (.dat e)), p.2.os⟩)
  | _ => none
/-- a list that stands in the heap and is nobody's becomes a cell -/
theorem Ok.adopt {K : PySem.W.Frag} {A : List Addr} {F G : Hp} {S : Sx} {σ : L2.St} (k : Ok K A F G S σ) {p : Addr} {vs : List V} {ds : List D} (hp : G p = none) (r : Rps K F vs ds) (hz : ds.length ≤ sizeLine) :
    Ok K (A ++ [p]) F (upd G p (.lst vs)) ⟨S.sl, S.os ++ [some (.lst ds)]⟩ σ := k.cellNew hp trivial ⟨vs, upd_same, r, hz⟩
theorem rd_asgO {K : PySem.W.Frag} {t : TE} (i : Nat) (r : RdN K t ge) : RdS K P (tAsg t (gName i)) (qOwn i ge) := by
  intro B A0 A F H S σ o E hP s p k e post
  obtain ⟨⟨d, S1⟩, e1, e⟩ := bind_inv e
  refine r A F H S σ d S1 _ k e1 fun A1 F1 G1 L vs ds p1 s1 k1 hL ed rv hz => ?_
  subst ed
  cases e
  have k2 := k1.adopt hL rv hz
  exact post _ F1 _ _ (s.trans s1) (p.trans (p1.trans (List.prefix_append _ _))) (k2.setOwn (j := S1.os.length) (by rw [k1.alen]; simp))
/-- a new list goes out, nobody's yet -/
def qRetO (g : M D) : Sx → Option Out := fun S => (g S).bind fun p => match p.1 with
  | .list ds => some (.ro p.2.os.length ⟨p.2.sl, p.2.os ++ [some (.lst ds)]⟩)
  | _ => none
theorem s_retNew (he : GN X e ge) : GS X P (.Return (some e) pos) (qRetO ge) := by
  obtain ⟨t, p1, r1⟩ := he.ex
  refine ⟨_, ps_ret p1, fun B A0 A F H S σ o E hP s p k e post => ?_⟩
  obtain ⟨⟨d, S1⟩, e1, e⟩ := bind_inv e
  refine r1 A F H S σ d S1 _ k e1 fun A1 F1 G1 L vs ds p1 s1 k1 hL ed rv hz => ?_
  subst ed
  cases e
  exact post _ F1 _ σ L (s.trans s1) (p.trans (p1.trans (List.prefix_append _ _))) (k1.adopt hL rv hz) (by rw [k1.alen]; simp)
theorem s_own {x : Str} {pos' : Pos} (i : Nat) (hN : X.N.Nodup) (he : GN X e ge) (hx : Loc X.env.scope x := by first | exact Or.inl rfl | exact Or.inr rfl) (hi : X.N[i]? = some x := by rfl) (hs : swapsWith e (some (.Name x pos')) pos.line X.env = pure false := by rfl)
    (hf : X.fn x = true ∨ X.env.scope.names.lookup x = some .local := by first | exact .inl rfl | exact .inr rfl | assumption) : GS X P (.Assign [.Name x pos'] e pos) (qOwn i ge) :=
  let ⟨_, p1, r1⟩ := he.ex; ⟨_, ps_set hN hi hx p1 hs hf, rd_asgO i r1⟩
end
section
variable {X : Cx} {P : Hp → Prop} {pos spos py : Pos} {y : Str} {elt tg iter tg1 iter1 : Expr} {ifs ifs1 : List Expr} {scope : Scope} {gi gi1 : M (List D)} {gg gg1 : D → Sx → Option Sx} {gt gt1 : M Bool} {ge : M D} {tgt tgt1 : List Nat}
/-- name = [..], on one line -/
structure Lc1 (X : Cx) (i : Nat) (st : Stmt) (g : M D) : Prop where
  ex : ∃ t, PS X st (tAsg t (gName i)) ∧ RdN X.K t g
theorem lc1 (i : Nat) (own : List (Str × Nat)) (hN : X.N.Nodup) (hi : GI X tg iter gi) (ok : BlkOk X.N X.env.scope scope own) (hg : InBlk X scope fun Y => GG Y tgt tg gg) (ht : InBlk X scope fun Y => GTs Y ifs gt) (he : InBlk X scope fun Y => GE Y elt ge)
    (hy : X.N[i]? = some y := by rfl) (hyl : X.env.scope.names.lookup y = some .local := by rfl) (hv : ∀ i ∈ tgt, i ∈ own.map (·.2) := by decide) (hc : X.calm = true := by rfl) (hs : ∀ x, foldedSetIterable iter X.env x = pure x := by intro _; rfl)
    (hsw : swapsWith (.ListComp elt [⟨tg, iter, ifs, 0⟩] scope pos) (some (.Name y py)) spos.line X.env = pure true := by exact sw_true rfl rfl rfl (by decide +kernel)) :
    Lc1 X i (.Assign [.Name y py] (.ListComp elt [⟨tg, iter, ifs, 0⟩] scope pos) spos) (gLc gi gg gt ge (own.map (·.2))) :=
  ⟨_, ps_setLc hc hN hy hyl hsw hi.pi ok (fun s H C cl fp => pg_fr (hg s H C cl fp).pg) (fun s H C cl fp => pts_fr (ht s H C cl fp).pts) (fun s H C cl fp => pe_fr (he s H C cl fp).pe) hs, rd_lc rd_iof rd_gof rd_tof rd_of hv⟩
theorem lc2 (i : Nat) (own : List (Str × Nat)) (vs1 : List Nat) (hN : X.N.Nodup) (hi : GI X tg iter gi) (ok : BlkOk X.N X.env.scope scope own) (hg : InBlk X scope fun Y => GG Y tgt tg gg) (ht : InBlk X scope fun Y => GTs Y ifs gt)
    (hi1 : InBlk X scope fun Y => GI Y tg1 iter1 gi1) (hg1 : InBlk X scope fun Y => GG Y tgt1 tg1 gg1) (ht1 : InBlk X scope fun Y => GTs Y ifs1 gt1) (he : InBlk X scope fun Y => GE Y elt ge)
    (hy : X.N[i]? = some y := by rfl) (hyl : X.env.scope.names.lookup y = some .local := by rfl)
    (hv : ∀ i ∈ tgt, i ∈ own.map (·.2) := by decide) (hv1 : ∀ i ∈ tgt1, i ∈ vs1 := by decide) (hvv : ∀ i ∈ vs1, i ∈ own.map (·.2) := by decide) (hc : X.calm = true := by rfl) (hs : ∀ x, foldedSetIterable iter X.env x = pure x := by intro _; rfl) (hs1 : ∀ env x, foldedSetIterable iter1 env x = pure x := by intro _ _; rfl)
    (hsw : swapsWith (.ListComp elt [⟨tg, iter, ifs, 0⟩, ⟨tg1, iter1, ifs1, 0⟩] scope pos) (some (.Name y py)) spos.line X.env = pure true := by exact sw_true rfl rfl rfl (by decide +kernel)) :
    Lc1 X i (.Assign [.Name y py] (.ListComp elt [⟨tg, iter, ifs, 0⟩, ⟨tg1, iter1, ifs1, 0⟩] scope pos) spos) (gLc2 gi gg gt gi1 gg1 gt1 ge (own.map (·.2)) vs1) :=
  ⟨_, ps_setLc2 hc hN hy hyl hsw hi.pi ok hvv (fun s H C cl fp => pg_fr (hg s H C cl fp).pg) (fun s H C cl fp => pts_fr (ht s H C cl fp).pts) (fun s H C cl fp => pi_fr (hi1 s H C cl fp).pi) (fun s H C cl fp => pg_fr (hg1 s H C cl fp).pg)
    (fun s H C cl fp => pts_fr (ht1 s H C cl fp).pts) (fun s H C cl fp => pe_fr (he s H C cl fp).pe) hs hs1, rd_lc2 rd_iof rd_gof rd_tof rd_iof rd_gof rd_tof rd_of hv hv1 hvv⟩
theorem s_setLc {i : Nat} {st : Stmt} (h : Lc1 X i st ge) : GS X P st (qSet i ge) := let ⟨_, p, r⟩ := h.ex; ⟨_, p, rd_asgN i r.e⟩
end

/-! ### new lists -/
section
variable {X : Cx} {pos p : Pos} {a b e : Expr} {es : List Expr} {ga gb : M D} {gs : M (List D)}
theorem n_lst (hs : GA X es gs) : GN X (.List es pos) (gLst gs) := by
  obtain ⟨u, pb, rb⟩ := hs.ex
  refine ⟨_, pe_lst pb, fun A F H S σ d S' Q k e post => ?_⟩
  obtain ⟨⟨x, S1⟩, h1, e⟩ := bind_inv e
  simp only at e
  split at e
  · rename_i hz
    cases e
    exact rb A F H S σ x _ _ k h1 fun A1 F1 H1 vs p1 s1 k1 r1 => ⟨by rw [r1.length]; exact hz, fun p hp => post A1 F1 H1 p vs x p1 s1 k1 hp rfl r1 hz⟩
  · cases e
/-- [x] * n -/
def gRep (f : D → D → Option D) (ga gb : M D) : M D := fun S => (gBin f ga gb S).bind fun p => match p.1 with
  | .list ds => some (.list ds, p.2)
  | _ => none
theorem n_rep (ha : GE X a ga) (hb : GE X b gb) : GN X (.BinOp a .Mult b pos) (gRep dMul ga gb) := by
  obtain ⟨_, pa, ra⟩ := ha.ex
  obtain ⟨_, pb, rb⟩ := hb.ex
  refine ⟨_, pe_op op_mulAny pa pb, fun A F H S σ d S' Q k e post => ?_⟩
  obtain ⟨⟨z, S3⟩, h0, e⟩ := bind_inv e
  obtain ⟨⟨x, S1⟩, h1, h0⟩ := bind_inv h0
  obtain ⟨⟨y, S2⟩, h2, h0⟩ := bind_inv h0
  obtain ⟨z', h3, h0⟩ := bind_inv h0
  cases h0
  refine ra A F H S σ x S1 _ k h1 fun A1 F1 H1 v1 p1 s1 k1 r1 => rb A1 F1 H1 S1 σ y _ _ k1 h2 fun A2 F2 H2 v2 p2 s2 k2 r2 => ?_
  cases z <;> simp only at e <;> cases e
  rename_i zs
  cases x <;> cases y <;> simp only [dMul] at h3 <;> try cases h3
  · split at h3 <;> cases h3
  · split at h3
    · rename_i hz
      cases h3
      obtain ⟨a, xs, rfl, g1, g2, _⟩ := rp_list_inv r1
      cases rp_int_inv r2
      refine .inr ⟨a, _, xs, rfl, rfl, (s2.trans k2.sub.same.t).old _ _ g1 trivial, hz.1, hz.2.1, by rw [g2.length]; exact hz.2.2, fun p hp => ?_⟩
      exact post A2 F2 H2 p _ _ (p1.trans p2) (s1.trans s2) k2 hp rfl ((Rps.mono s2 _ _ g2).rep _) (by rw [PyProof.Rows.lm_len_rep_flat, Nat.mul_comm]; exact hz.2.2)
    · cases h3
end
end Fu

set_option maxHeartbeats 4000000
namespace Fu
open PySem PySem.Spec PyProof.Rows L2 RZ
variable [TabsC]

/-! ### lists that are written: items, length, comparisons -/
def ownOf (S : Sx) (i : Nat) : Option (Nat × List D) := match S.sl[i]? with
  | some (some (.own j)) => match S.os[j]? with
    | some (some (.lst cs)) => some (j, cs)
    | _ => none
  | _ => none
theorem own_at {K : PySem.W.Frag} {A : List Addr} {F H : Hp} {S : Sx} {σ : L2.St} {i j : Nat} {cs : List D} (k : Ok K A F H S σ) (h : ownOf S i = some (j, cs)) :
    ∃ a vs, S.sl[i]? = some (some (.own j)) ∧ S.os[j]? = some (some (.lst cs)) ∧ A[j]? = some a ∧ σ[i]? = some (some (.ref a)) ∧ F a = none ∧ H a = some (.lst vs) ∧ Rps K F vs cs ∧ cs.length ≤ sizeLine := by
  unfold ownOf at h
  split at h
  · rename_i j' ej
    split at h
    · rename_i cs' ec
      cases h
      obtain ⟨a, ha, ev⟩ := k.oslot i _ ej
      obtain ⟨a', ha', fa, vs, hv, r, hz⟩ := k.cell _ _ ec
      rw [ha] at ha'; cases ha'
      exact ⟨a, vs, ej, ec, ha, ev, fa, hv, r, hz⟩
    · cases h
  · cases h
/-- behind an expression: the cell as it stands by then -/
def cellOf (S : Sx) (j : Nat) : Option (List D) := match S.os[j]? with
  | some (some (.lst cs)) => some cs
  | _ => none
theorem cell_at {K : PySem.W.Frag} {A : List Addr} {F H : Hp} {S : Sx} {σ : L2.St} {j : Nat} {cs : List D} {a : Addr} (k : Ok K A F H S σ) (h : cellOf S j = some cs) (ha : A[j]? = some a) :
    ∃ vs, S.os[j]? = some (some (.lst cs)) ∧ F a = none ∧ H a = some (.lst vs) ∧ Rps K F vs cs ∧ cs.length ≤ sizeLine := by
  unfold cellOf at h
  split at h
  · rename_i cs' ec
    cases h
    obtain ⟨a', ha', fa, vs, hv, r, hz⟩ := k.cell _ _ ec
    rw [ha] at ha'; cases ha'
    exact ⟨vs, ec, fa, hv, r, hz⟩
  · cases h
section
variable {X : Cx} {P : Hp → Prop} {pos py p p2 apos : Pos} {y : Str} {b e : Expr} {es : List Expr} {gb ge : M D} {gs : M (List D)}
def gIxO (i : Nat) (gb : M D) : M D := fun S => (ownOf S i).bind fun o => (gb S).bind fun p => match p.1 with
  | .int n => (cellOf p.2 o.1).bind fun cs => (atI cs n).bind fun d => some (d, p.2)
  | _ => none
theorem e_ixO (i : Nat) (hb : GE X b gb) (hN : X.N[i]? = some y := by rfl) (hv : Vis X.env.scope y := by first | exact Or.inl rfl | exact Or.inr (Or.inl rfl) | exact Or.inr (Or.inr rfl)) (hs : PlainIx b := by exact fun _ _ => rfl) (hdy : (y == ("__debug__" : Str)) = false := by decide) (hcd : (y == ("__classdict__" : Str)) = false := by decide) :
    GE X (.Subscript (.Name y py) b pos) (gIxO i gb) := by
  obtain ⟨u, pb, rb⟩ := hb.ex
  refine ⟨_, pe_ix ix_list (pe_var hN hv hdy hcd) pb hs, fun A F H S σ d S' Q k h post => ?_⟩
  obtain ⟨⟨j, cs0⟩, e0, h⟩ := bind_inv h
  obtain ⟨⟨x, S1⟩, e1, h⟩ := bind_inv h
  obtain ⟨a, vs0, _, _, ha, ev, _⟩ := own_at k e0
  refine ⟨_, ev, rb A F H S σ x S1 _ k e1 fun A1 F1 H1 v p1 s1 k1 r1 => ?_⟩
  cases x <;> simp only at h <;> try cases h
  rename_i n
  obtain ⟨cs, e2, h⟩ := bind_inv h
  obtain ⟨d', e3, h⟩ := bind_inv h
  cases h
  obtain ⟨vs, _, _, hv', r, _⟩ := cell_at k1 e2 (prefix_at p1 ha)
  cases rp_int_inv r1
  obtain ⟨w, ew, rw'⟩ := rps_atI r e3
  exact ⟨a, vs, _, w, rfl, rfl, SqL.of hv', ew, post A1 F1 H1 w p1 s1 k1 rw'⟩
def gLenO (i : Nat) : M D := fun S => (ownOf S i).bind fun o => some (.int o.2.length, S)
/-- own on the left, own on the right -/
def gOL (f : D → D → Option D) (i : Nat) (gb : M D) : M D := fun S => (ownOf S i).bind fun o => (gb S).bind fun p => (cellOf p.2 o.1).bind fun cs => match f (.list cs) p.1 with
  | some (.bool b) => some (.bool b, p.2)
  | _ => none
def gOR (f : D → D → Option D) (gb : M D) (i : Nat) : M D := fun S => (gb S).bind fun p => (ownOf p.2 i).bind fun o => match f p.1 (.list o.2) with
  | some (.bool b) => some (.bool b, p.2)
  | _ => none
/-! ### lists that are written: append, extend, pop, xs[k] = v -/
def setCell (S : Sx) (j : Nat) (cs : List D) : Sx := ⟨S.sl, S.os.set j (some (.lst cs))⟩
/-- xs.append(e), its value None -/
def gApp (i : Nat) (ge : M D) : M D := fun S => (ownOf S i).bind fun o => (ge S).bind fun p => (cellOf p.2 o.1).bind fun cs => if cs.length < sizeLine then some (.none, setCell p.2 o.1 (cs ++ [p.1])) else none
theorem e_append (i : Nat) (he : GE X e ge) (hN : X.N[i]? = some y := by rfl) (hv : Vis X.env.scope y := by first | exact Or.inl rfl | exact Or.inr (Or.inl rfl) | exact Or.inr (Or.inr rfl)) (hdy : (y == ("__debug__" : Str)) = false := by decide) (hcd : (y == ("__classdict__" : Str)) = false := by decide)
    (hbase : attributeBase (.Name y py) "append" X.env (eval (.Name y py) X.env) = eval (.Name y py) X.env := by rfl)
    (hfew : ((backTo pos (starEach [e] X.env)).all (fun x => !x.1) && (backToKw pos (keywordEach [] X.env)).all (fun x => x.1.isSome) && decide (([e] : List Expr).length + ([] : List Keyword).length + (if ([] : List Keyword).isEmpty then 0 else 1) < 30)) = true := by rfl)
    (hline : (apos.endLine == pos.line) = true := by rfl) (hst : starEach [e] X.env = (false, eval e X.env) :: starEach [] X.env := by rfl) : GE X (.Call (.Attribute (.Name y py) "append" apos) [e] [] pos) (gApp i ge) := by
  obtain ⟨t, pa, ra⟩ := he.ex
  refine ⟨_, pe_bm PySem.F.plainAttrs_list PySem.F.slot_list_append PySem.F.type_list_append mt_append (pe_var hN hv hdy hcd) (pa_cons pa pa_nil hst) hbase hfew hline hst (by rfl), fun A F H S σ d S' Q k h post => ?_⟩
  obtain ⟨⟨j, cs0⟩, e0, h⟩ := bind_inv h
  obtain ⟨⟨x, S1⟩, e1, h⟩ := bind_inv h
  obtain ⟨cs, e2, h⟩ := bind_inv h
  simp only at h
  split at h
  · rename_i hlt
    cases h
    obtain ⟨a, vs0, _, _, ha, ev, _, hv0, _, _⟩ := own_at k e0
    refine ⟨_, ev, .inl ⟨rfl, _, SqL.of hv0⟩, ra A F H S σ x S1 _ k e1 fun A1 F1 H1 v p1 s1 k1 r1 => ?_⟩
    obtain ⟨vs, ec, fa, hv', rr, hz⟩ := cell_at k1 e2 (prefix_at p1 ha)
    refine ⟨a, vs, v, rfl, rfl, hv', by rw [rr.length]; exact hlt, ?_⟩
    exact post A1 F1 _ _ p1 s1 (k1.cellSet ec (prefix_at p1 ha) trivial ⟨_, upd_same, rr.append (.cons r1 .nil), by rw [List.length_append]; exact hlt⟩) .non
  · cases h
/-- xs[k] = v -/
def qSetO (i : Nat) (gb ge : M D) : Sx → Option Out := fun S => (ge S).bind fun p => (ownOf p.2 i).bind fun o => (gb p.2).bind fun q => match q.1 with
  | .int n => (cellOf q.2 o.1).bind fun cs => (ixN cs.length n).bind fun m => some (.nx (setCell q.2 o.1 (cs.set m p.1)))
  | _ => none
theorem s_setO {spos : Pos} (i : Nat) (hb : GE X b gb) (he : GE X e ge) (hN : X.N[i]? = some y := by rfl) (hv : Vis X.env.scope y := by first | exact Or.inl rfl | exact Or.inr (Or.inl rfl) | exact Or.inr (Or.inr rfl)) (hdy : (y == ("__debug__" : Str)) = false := by decide) (hcd : (y == ("__classdict__" : Str)) = false := by decide)
    (ha : ∀ v, assign (.Subscript (.Name y py) b pos) X.env v = (do
      let ov ← holding [v] (eval (.Name y py) X.env)
      let iv ← holding [v, ov] (eval b X.env)
      standAt pos
      holding [v, ov, iv] (setItem ov iv v)
      release [v, ov, iv] []) := by intro _; rfl)
    (hs : swapsWithSole [.Subscript (.Name y py) b pos] e spos.line X.env = pure false := by rfl) (hw : swappedStores [.Subscript (.Name y py) b pos] e X.env = pure none := by rfl)
    (h1 : (assignEach [.Subscript (.Name y py) b pos] X.env).map (·.2) = [assign (.Subscript (.Name y py) b pos) X.env] := by rfl) : GS X P (.Assign [.Subscript (.Name y py) b pos] e spos) (qSetO i gb ge) := by
  obtain ⟨t, pe, re⟩ := he.ex
  obtain ⟨u, pb, rb⟩ := hb.ex
  refine ⟨_, ps_asg pe (pg_sub (pe_var hN hv hdy hcd) pb set_list ha) hs hw h1, fun B A0 A F H S σ o E hP s p k h post => ?_⟩
  obtain ⟨⟨d, S1⟩, e1, h⟩ := bind_inv h
  obtain ⟨⟨j, cs0⟩, e0, h⟩ := bind_inv h
  obtain ⟨⟨x, S2⟩, e2, h⟩ := bind_inv h
  cases x <;> simp only at h <;> try cases h
  rename_i n
  obtain ⟨cs, e3, h⟩ := bind_inv h
  obtain ⟨m, e4, h⟩ := bind_inv h
  cases h
  refine re A F H S σ d S1 _ k e1 fun A1 F1 H1 v p1 s1 k1 r1 => ?_
  obtain ⟨a, vs0, _, _, ha', ev, _, hv0, _, _⟩ := own_at k1 e0
  refine ⟨_, ev, rb A1 F1 H1 S1 σ _ S2 _ k1 e2 fun A2 F2 H2 w p2 s2 k2 r2 => ?_⟩
  cases rp_int_inv r2
  obtain ⟨vs, ec, fa, hv', rr, hz⟩ := cell_at k2 e3 (prefix_at p2 ha')
  refine ⟨a, vs, n, m, rfl, rfl, hv', by rw [rr.length]; exact e4, ?_⟩
  exact post A2 F2 _ _ (s.trans (s1.trans s2)) (p.trans (p1.trans p2)) (k2.cellSet ec (prefix_at p2 ha') trivial ⟨_, upd_same, Rps.set _ (r1.mono s2 _ _) rr, by rw [List.length_set]; exact hz⟩)

/-! ### x += e of numbers -/
end

/-! ### loops -/
def gLoop (gg : D → Sx → Option Sx) (body : Sx → Option Out) : List D → Sx → Option Out
  | [], S => some (.nx S)
  | d :: ds, S => (gg d S).bind fun S1 => (body S1).bind fun o => match o with
    | .nx S2 => gLoop gg body ds S2
    | .ct S2 => gLoop gg body ds S2
    | .bk S2 => some (.nx S2)
    | .rt d S2 => some (.rt d S2)
    | .ro j S2 => some (.ro j S2)
    | .rs r S2 => some (.rs r S2)
def qFor (gi : M (List D)) (gg : D → Sx → Option Sx) (body : Sx → Option Out) : Sx → Option Out := fun S => (gi S).bind fun p => gLoop gg body p.1 p.2
section
variable {K : PySem.W.Frag} {P : Hp → Prop}
/-- the loop, its walk over a heap W that B holds -/
theorem rd_loop {g : TG} {tb : TS} {gg : D → Sx → Option Sx} {body : Sx → Option Out} {tgt : List Nat} (hg : RdG K tgt g gg) (hb : RdS K P tb body) {B W : Hp} {A0 : List Addr} {J : It} {ds : List D} {E : Ends} {o : Out} (hP : P B) (w : Walk K W J ds) (hW : SameT W B)
    (post : OutP K B A0 o E) {A : List Addr} {F H : Hp} {S : Sx} {σ : L2.St} (s : SameT B F) (p : A0 <+: A) (k : Ok K A F H S σ) (e : gLoop gg body ds S = some o) :
    ∃ Wi : Nat → Nat → L2.St → Hp → Prop, (∃ m, Wi 0 m σ H) ∧ ∀ i m σ H, Wi i m σ H →
      (J.stop i H ∧ E.nx σ H) ∨ (J.go i H ∧ ∃ N : L2.St → Hp → Prop, (∀ σ' H', N σ' H' → ∃ m', m' < m ∧ Wi (i + 1) m' σ' H') ∧ ∀ x H', J.yld i H x H' → g x σ H' fun σ2 H2 => tb { E with nx := N, ct := N, bk := E.nx } σ2 H2) := by
  refine ⟨fun i m σ H => m = ds.length - i ∧ i ≤ ds.length ∧ ∃ A F S, SameT B F ∧ A0 <+: A ∧ Ok K A F H S σ ∧ gLoop gg body (ds.drop i) S = some o, ⟨ds.length, by simp, Nat.zero_le _, A, F, S, s, p, k, by simpa using e⟩, ?_⟩
  rintro i m σ1 H1 ⟨rfl, hil, A1, F1, S1, s1, p1, k1, e1⟩
  have sWH : SameT W H1 := (hW.trans s1).trans k1.sub.same.t
  by_cases hlt : i < ds.length
  · refine .inr ⟨w.go i _ sWH hlt, fun σ' H' => i + 1 ≤ ds.length ∧ ∃ A F S, SameT B F ∧ A0 <+: A ∧ Ok K A F H' S σ' ∧ gLoop gg body (ds.drop (i + 1)) S = some o, fun σ' H' h => ⟨ds.length - (i + 1), by omega, rfl, h⟩, fun x H' hy => ?_⟩
    rw [List.drop_eq_getElem_cons hlt] at e1
    obtain ⟨S2, e2, e1⟩ := bind_inv (show (gg ds[i] S1).bind _ = _ from e1)
    obtain ⟨o2, e3, e1⟩ := bind_inv e1
    have key : ∃ F2, SameT F1 F2 ∧ Ok K A1 F2 H' S1 σ1 ∧ Rp K F2 x ds[i] := by
      rcases w.yld i ds[i] _ x H' sWH (List.getElem?_eq_getElem hlt) hy with ⟨rfl, r⟩ | ⟨T, ws, es, rfl, hT, rfl, ed, r, hz2⟩
      · exact ⟨F1, SameT.refl _, k1, (r.mono hW _ _).mono s1 _ _⟩
      · obtain ⟨s3, k3, r3⟩ := k1.newTup hT (Rps.mono s1 _ _ (Rps.mono hW _ _ r)) hz2
        exact ⟨_, s3, k3, by rw [ed]; exact r3⟩
    obtain ⟨F2, s2, k2, rx⟩ := key
    refine hg A1 F2 H' S1 σ1 x ds[i] S2 _ k2 rx e2 fun A3 F3 H3 σ3 p3 s3 k3 _ => ?_
    refine hb B A0 A3 F3 H3 S2 σ3 o2 _ hP (s1.trans (s2.trans s3)) (p1.trans p3) k3 e3 ?_
    cases o2 with
    | nx S4 => exact fun A4 F4 H4 σ4 s4 p4 k4 => ⟨hlt, A4, F4, S4, s4, p4, k4, e1⟩
    | ct S4 => exact fun A4 F4 H4 σ4 s4 p4 k4 => ⟨hlt, A4, F4, S4, s4, p4, k4, e1⟩
    | bk S4 => cases e1; exact post
    | rt d S4 => cases e1; exact post
    | ro j S4 => cases e1; exact post
    | rs r S4 => cases e1; exact post
  · have ei : i = ds.length := by omega
    subst ei
    rw [List.drop_length] at e1
    cases e1
    exact .inl ⟨w.stop _ _ sWH (Nat.le_refl _), post A1 F1 H1 σ1 s1 p1 k1⟩
end
section
variable {X : Cx} {P : Hp → Prop} {pos : Pos} {tg iter : Expr} {body : List Stmt} {gi : M (List D)} {gg : D → Sx → Option Sx} {g : Sx → Option Out} {tgt : List Nat}
theorem same_outp {K : PySem.W.Frag} {B B' : Hp} {A0 A0' : List Addr} {o : Out} {E : Ends} (s : SameT B B') (p : A0 <+: A0') (h : OutP K B A0 o E) : OutP K B' A0' o E := by
  cases o with
  | nx S => exact fun A F H σ s1 p1 k => h A F H σ (s.trans s1) (p.trans p1) k
  | rt d S => exact fun A F H σ v s1 p1 k => h A F H σ v (s.trans s1) (p.trans p1) k
  | bk S => exact fun A F H σ s1 p1 k => h A F H σ (s.trans s1) (p.trans p1) k
  | ct S => exact fun A F H σ s1 p1 k => h A F H σ (s.trans s1) (p.trans p1) k
  | ro j S => exact fun A F H σ a s1 p1 k => h A F H σ a (s.trans s1) (p.trans p1) k
  | rs r S => exact fun A F H σ v s1 p1 k => h A F H σ v (s.trans s1) (p.trans p1) k
/-- over data that stand: the body may be judged over any base -/
theorem s_for (hp : PassesOwn (model X.prog X.w) X.A X.env X.xe) (hi : GI X tg iter gi) (hg : GG X tgt tg gg) (hb : GSs X P body g) (hPall : ∀ B, P B) (hc : X.calm = true := by rfl) (hs : ∀ x, foldedSetIterable iter X.env x = pure x := by intro _; rfl) : GS X P (.For tg iter body [] pos) (qFor gi gg g) := by
  obtain ⟨t, pi, ri⟩ := hi.ex
  obtain ⟨u, pg, rg⟩ := hg.ex
  obtain ⟨v, pb, rb⟩ := hb.ex
  refine ⟨_, ps_for hp hc pi pg pb hs, fun B A0 A F H S σ o E hP s p k e post => ?_⟩
  obtain ⟨⟨ds, S1⟩, e1, e⟩ := bind_inv e
  exact ri A F H S σ ds S1 _ k e1 fun A1 F1 H1 J p1 s1 k1 w _ => rd_loop rg rb (hPall F1) w (SameT.refl F1) (same_outp (s.trans s1) p post) (SameT.refl F1) (p1) k1 e
/-- over numbers -/
theorem s_for0 (hp : PassesOwn (model X.prog X.w) X.A X.env X.xe) (hi : GI0 X tg iter gi) (hg : GG X tgt tg gg) (hb : GSs X P body g) (hc : X.calm = true := by rfl) (hs : ∀ x, foldedSetIterable iter X.env x = pure x := by intro _; rfl) : GS X P (.For tg iter body [] pos) (qFor gi gg g) := by
  obtain ⟨t, pi, ri⟩ := hi.ex
  obtain ⟨u, pg, rg⟩ := hg.ex
  obtain ⟨v, pb, rb⟩ := hb.ex
  refine ⟨_, ps_for hp hc pi pg pb hs, fun B A0 A F H S σ o E hP s p k e post => ?_⟩
  obtain ⟨⟨ds, S1⟩, e1, e⟩ := bind_inv e
  exact ri A F H S σ ds S1 _ k e1 fun A1 F1 H1 J p1 s1 k1 w => rd_loop rg rb hP w (SameT.empty _) post (s.trans s1) (p.trans p1) k1 e
end
end Fu

set_option maxHeartbeats 4000000
namespace Fu
open PySem PySem.Spec PyProof.Rows L2 RZ
variable [TabsC]

/-! ### defs -/
def initS (n : Nat) (ds : List D) : List (Option R) := ds.map (fun d => some (.dat d)) ++ List.replicate (n - ds.length) none
/-- a def's value by data -/
def mF (n : Nat) (g : Sx → Option Out) : List D → Option D := fun ds => (g ⟨initS n ds, []⟩).bind fun o => match o with
  | .nx _ => some .none
  | .rt d _ => some d
  | _ => none
/-- .. where the first argument is a list that it writes -/
def mIO (n : Nat) (g : Sx → Option Out) : List D → List D → Option (D × List D) := fun cs ds => (g ⟨some (.own 0) :: initS (n - 1) ds, [some (.lst cs)]⟩).bind fun o => match o with
  | .nx S => (cellOf S 0).bind fun c => some (.none, c)
  | .rt d S => (cellOf S 0).bind fun c => some (d, c)
  | _ => none
theorem initS_in {n : Nat} {ds : List D} {i : Nat} {r : R} (h : (initS n ds)[i]? = some (some r)) : ∃ d, ds[i]? = some d ∧ r = .dat d := by
  unfold initS at h
  by_cases hi : i < ds.length
  · rw [List.getElem?_append_left (by simpa using hi), List.getElem?_map] at h
    obtain ⟨d', e1, e2⟩ := Option.map_eq_some_iff.mp h
    cases e2
    exact ⟨d', e1, rfl⟩
  · rw [List.getElem?_append_right (by simp; omega)] at h
    have := List.mem_of_getElem? h
    rw [List.mem_replicate] at this
    exact nomatch this.2
theorem start_at {N : List Str} {vs : List V} {i : Nat} {v : V} (h : vs[i]? = some v) : (L2.start N vs)[i]? = some (some v) := by
  unfold L2.start
  rw [List.getElem?_append_left (by rw [List.length_map]; exact (List.getElem?_eq_some_iff.mp h).1), List.getElem?_map, h]
  rfl
theorem start_dat {K : PySem.W.Frag} {H : Hp} {N : List Str} {vs : List V} {ds : List D} (r : Rps K H vs ds) (hl : vs.length ≤ N.length) {H' : Hp} (s : Sub H H') (tb : LamX.Tabs TabsC.T H) : Ok K [] H H' ⟨initS N.length ds, []⟩ (L2.start N vs) := by
  refine ⟨s, ?_, rfl, List.nodup_nil, fun i q h => ?_, fun j c h => by simp at h, fun a h => by simp at h, tb⟩
  · simp [initS, L2.start, r.length]
  · obtain ⟨d, e1, rfl⟩ := initS_in h
    obtain ⟨v, ev, rv⟩ := r.get e1
    exact ⟨v, start_at ev, .dat rv⟩
section
variable {P : Program} {w : World} {K : PySem.W.Frag} {mg : Str → Option Value} {base : Heap} {x qual : Str} {st : Stmt} {f : Addr} {fd : FuncData} {N ps : List Str} {k n : Nat} {g : Sx → Option Out}
abbrev AnyB : Hp → Prop := fun _ => True
/-- the context of the def's body -/
abbrev cxF (P : Program) (w : World) (K : PySem.W.Frag) (mg : Str → Option Value) (base : Heap) (N : List Str) (qual : Str) (st : Stmt) (f : Addr) (cdv : Value) (A : Around) (outer : List Env) (s : Shared) (H : Hp) (E : XK) : Cx := (cxOf CX0 P w K mg base N qual (defScope st) f cdv A outer s H E).nox
theorem fn_pure (F : Fun K x qual st f fd) (S : FnScope N ps (defScope st)) (hn : ps.length = n) (hN : n ≤ N.length)
    (body : ∀ (cdv : Value) (A : Around) (outer : List Env) (s : Shared) (H : Hp) (E : XK), Room k (A.deeper (envOfC qual (defScope st) s.heap.objs.size f cdv)) → GSs (cxF P w K mg base N qual st f cdv A outer s H E) AnyB (defBody st) g) :
    FnOk P w K mg base CX0 (k + 1) f fd ps (spF K n (mF N.length g)) := by
  refine F.ok S (spF_len hn) fun cdv A outer s H vs Q E hr h => ?_
  obtain ⟨ds, z, hd, r, e, tb, post⟩ := h
  obtain ⟨t, p, rd⟩ := (body cdv A outer s H E hr).ex
  refine ⟨t, p, ?_⟩
  obtain ⟨o, e1, e⟩ := bind_inv e
  have hl : vs.length ≤ N.length := by rw [r.length, hd]; exact hN
  refine rd H [] [] H H _ (L2.start N vs) o _ trivial (SameT.refl H) (List.prefix_refl _) (start_dat r hl (Sub.refl H) tb) e1 ?_
  cases o with
  | nx S => cases e; exact fun A1 F1 H1 σ1 s1 p1 k1 => post H1 .non (s1.trans k1.sub.same.t) .non
  | rt d S => cases e; exact fun A1 F1 H1 σ1 v s1 p1 k1 rv => post H1 v (s1.trans k1.sub.same.t) (rv.mono k1.sub.same.t _ _)
  | bk S => cases e
  | ct S => cases e
  | rs r S => cases e
  | ro j S => cases e
theorem start_own {K : PySem.W.Frag} {F : Hp} {N : List Str} {a : Addr} {xs vs : List V} {cs ds : List D} (fa : F a = none) (rc : Rps K F xs cs) (hz : cs.length ≤ sizeLine) (r : Rps K F vs ds) (hl : vs.length + 1 ≤ N.length) (tb : LamX.Tabs TabsC.T F) :
    Ok K [a] F (upd F a (.lst xs)) ⟨some (.own 0) :: initS (N.length - 1) ds, [some (.lst cs)]⟩ (L2.start N (.ref a :: vs)) := by
  obtain ⟨m, M, rfl⟩ : ∃ m M, N = m :: M := by
    cases N with
    | nil => simp at hl
    | cons m M => exact ⟨m, M, rfl⟩
  have hl' : vs.length ≤ M.length := by simpa using hl
  have k := start_dat (N := M) r hl' (sub_one fa (o := .lst xs) trivial) tb
  have es : L2.start (m :: M) (.ref a :: vs) = some (.ref a) :: L2.start M vs := by
    unfold L2.start
    simp
  rw [es]
  simp only [List.length_cons, Nat.add_sub_cancel]
  refine ⟨k.sub, by simpa using k.len, rfl, by simp, fun i r h => ?_, fun j c h => ?_, fun b h => ?_, tb⟩
  · cases i with
    | zero =>
      simp at h
      subst h
      exact ⟨_, rfl, .own rfl⟩
    | succ i =>
      obtain ⟨v, e1, r1⟩ := k.rslot i r (by simpa using h)
      exact ⟨v, by simpa using e1, r1.mono (List.nil_prefix) (SameT.refl _) _ _⟩
  · cases j with
    | zero =>
      simp at h
      subst h
      exact ⟨a, rfl, fa, xs, upd_same, rc, hz⟩
    | succ j => simp at h
  · simp at h
    subst h
    exact ⟨_, upd_same, trivial⟩
theorem fn_io (F : Fun K x qual st f fd) (S : FnScope N ps (defScope st)) (hn : ps.length = n + 1) (hN : n + 1 ≤ N.length)
    (body : ∀ (cdv : Value) (A : Around) (outer : List Env) (s : Shared) (H : Hp) (E : XK), Room k (A.deeper (envOfC qual (defScope st) s.heap.objs.size f cdv)) → GSs (cxF P w K mg base N qual st f cdv A outer s H E) AnyB (defBody st) g) :
    FnOk P w K mg base CX0 (k + 1) f fd ps (spIO K n (mIO N.length g)) := by
  refine F.ok S (spIO_len hn) fun cdv A outer s H vs Q E hr h => ?_
  obtain ⟨a, xs, rest, F0, cs, ds, r, cs', rfl, fa, rfl, hz, rc, rr, hd, e, tb, post⟩ := h
  obtain ⟨t, p, rd⟩ := (body cdv A outer s _ E hr).ex
  refine ⟨t, p, ?_⟩
  obtain ⟨o, e1, e⟩ := bind_inv e
  have hl : rest.length + 1 ≤ N.length := by rw [rr.length, hd]; exact hN
  have fin : ∀ (A1 : List Addr) (F1 H1 : Hp) (σ1 : L2.St) (S1 : Sx) (v : V) (d : D) (c : List D), SameT F0 F1 → [a] <+: A1 → Ok K A1 F1 H1 S1 σ1 → Rp K F1 v d → cellOf S1 0 = some c → (d, c) = (r, cs') → Q v H1 := by
    intro A1 F1 H1 σ1 S1 v d c s1 p1 k1 rv hc ee
    cases ee
    have ha : A1[0]? = some a := prefix_at p1 rfl
    obtain ⟨us, ec, fa1, hv, rc1, hz1⟩ := cell_at k1 hc ha
    have s2 : SameT F1 (fun b => if b = a then none else H1 b) := L2.Same.t fun b o q => by
      show (if b = a then none else H1 b) = some o
      rw [if_neg (ne_of_none q fa1)]
      exact k1.sub.same b o q
    have := post (fun b => if b = a then none else H1 b) us v (s1.trans s2) (if_pos rfl) (Rps.mono s2 _ _ rc1) hz1 (rv.mono s2 _ _)
    rwa [show upd (fun b => if b = a then none else H1 b) a (.lst us) = H1 from ?_] at this
    funext b
    by_cases hb : b = a
    · subst hb; rw [upd_same, hv]
    · rw [upd_ne hb]; exact if_neg hb
  refine rd F0 [a] [a] F0 _ _ _ o _ trivial (SameT.refl F0) (List.prefix_refl _) (start_own fa rc hz rr hl tb) e1 ?_
  cases o with
  | nx S =>
    obtain ⟨c, hc, e⟩ := bind_inv e
    exact fun A1 F1 H1 σ1 s1 p1 k1 => fin A1 F1 H1 σ1 S .non .none c s1 p1 k1 .non hc (by cases e; rfl)
  | rt d S =>
    obtain ⟨c, hc, e⟩ := bind_inv e
    exact fun A1 F1 H1 σ1 v s1 p1 k1 rv => fin A1 F1 H1 σ1 S v d c s1 p1 k1 rv hc (by cases e; rfl)
  | bk S => cases e
  | ct S => cases e
  | rs r S => cases e
  | ro j S => cases e
end
/-! ### defs that hand back a new list -/
def spN (K : PySem.W.Frag) (n : Nat) (f : List D → Option (List D)) : Sp := fun vs H Q _ => ∃ ds zs, ds.length = n ∧ Rps K H vs ds ∧ f ds = some zs ∧ LamX.Tabs TabsC.T H ∧
  ∀ F p us, SameT H F → F p = none → Rps K F us zs → zs.length ≤ sizeLine → Q (.ref p) (upd F p (.lst us))
theorem spN_len {K : PySem.W.Frag} {n : Nat} {f : List D → Option (List D)} {ps : List Str} (h : ps.length = n) : ∀ vs H Q E, spN K n f vs H Q E → vs.length = ps.length := by
  intro vs H Q E ⟨ds, z, e, r, _⟩
  rw [r.length, e, h]
def mN (n : Nat) (g : Sx → Option Out) : List D → Option (List D) := fun ds => (g ⟨initS n ds, []⟩).bind fun o => match o with
  | .ro j S => cellOf S j
  | _ => none
/-- the heap without the list at a -/
def lessH (H : Hp) (a : Addr) : Hp := fun b => if b = a then none else H b
theorem less_upd {H : Hp} {a : Addr} {o : HO} (h : H a = some o) : upd (lessH H a) a o = H := by
  funext b
  by_cases hb : b = a
  · subst hb; rw [upd_same, h]
  · rw [upd_ne hb]; exact if_neg hb
theorem less_same {K : PySem.W.Frag} {A : List Addr} {F H : Hp} {S : Sx} {σ : L2.St} (k : Ok K A F H S σ) {a : Addr} (fa : F a = none) : SameT F (lessH H a) := L2.Same.t fun b o q => by
  show (if b = a then none else H b) = some o
  rw [if_neg (ne_of_none q fa)]
  exact k.sub.same b o q
section
variable {P : Program} {w : World} {K : PySem.W.Frag} {mg : Str → Option Value} {base : Heap} {x qual : Str} {st : Stmt} {f : Addr} {fd : FuncData} {N ps : List Str} {k n : Nat} {g : Sx → Option Out}
end
def gCallN (n : Nat) (f : List D → Option (List D)) (g : M (List D)) : M D := fun S => (g S).bind fun p => if p.1.length = n then (f p.1).bind fun z => some (.list z, p.2) else none

/-! ### the script -/
section
variable {X : Cx} {pos p p2 py : Pos} {y : Str} {lo hi : Option Expr} {gl gh : M (Option Int)}
def scrOf (S : Sx) (i : Nat) : Option (List Int) := match S.sl[i]? with
  | some (some (.scr ns)) => some ns
  | _ => none
theorem scr_at {K : PySem.W.Frag} {A : List Addr} {F H : Hp} {S : Sx} {σ : L2.St} {i : Nat} {ns : List Int} (k : Ok K A F H S σ) (h : scrOf S i = some ns) : ns.length ≤ 63 ∧ ∃ a, σ[i]? = some (some (.ref a)) ∧ SqL K F a (ns.map V.int) := by
  unfold scrOf at h
  split at h
  · rename_i ns' e
    cases h
    exact k.sslot i _ e
  · cases h
def gScrSl (i : Nat) (gl gh : M (Option Int)) : M D := fun S => (scrOf S i).bind fun ns => (gl S).bind fun q => (gh q.2).bind fun r => some (.list ((cutL ns q.1 r.1).map .int), r.2)
theorem cut_map {α β : Type} (f : α → β) (xs : List α) (lo hi : Option Int) : cutL (xs.map f) lo hi = (cutL xs lo hi).map f := by
  unfold cutL
  rw [List.length_map, List.map_take, List.map_drop]
theorem e_scrSl (i : Nat) (hl : GO X lo gl) (hh : GO X hi gh) (hN : X.N[i]? = some y := by rfl) (hv : Vis X.env.scope y := by first | exact Or.inl rfl | exact Or.inr (Or.inl rfl) | exact Or.inr (Or.inr rfl)) (hdy : (y == ("__debug__" : Str)) = false := by decide) (hcd : (y == ("__classdict__" : Str)) = false := by decide) :
    GE X (.Subscript (.Name y py) (.Slice lo hi none p2) pos) (gScrSl i gl gh) := by
  obtain ⟨_, pl, rl⟩ := hl.ex
  obtain ⟨_, ph, rh⟩ := hh.ex
  refine ⟨_, pe_slice sl_list (pe_var hN hv hdy hcd) pl ph, fun A F H S σ d S' Q k e post => ?_⟩
  obtain ⟨ns, e0, e⟩ := bind_inv e
  obtain ⟨⟨l, S2⟩, h2, e⟩ := bind_inv e
  obtain ⟨⟨u, S3⟩, h3, e⟩ := bind_inv e
  cases e
  obtain ⟨hz, a, ev, hs⟩ := scr_at k e0
  refine ⟨_, ev, rl A F H S σ l _ _ k h2 fun A2 F2 H2 p2 s2 k2 => rh A2 F2 H2 _ σ u _ _ k2 h3 fun A3 F3 H3 p3 s3 k3 => ⟨a, _, rfl, k3.sub.same.seq (s3.seq (s2.seq hs)), fun p hp => ?_⟩⟩
  have e2 : cutV (ns.map V.int) l u = (cutL ns l u).map V.int := cut_map V.int ns l u
  rw [e2]
  obtain ⟨s4, k4, r4⟩ := k3.newList hp (Rps.ints (cutL ns l u)) (by
    rw [List.length_map]
    have h1 := cutL_le ns l u
    have h2 : (63 : Nat) ≤ sizeLine := by decide
    omega)
  exact post A3 _ _ _ (p2.trans p3) (s2.trans (s3.trans s4)) k4 r4
def gScrLen (i : Nat) : M D := fun S => (scrOf S i).bind fun ns => some (.int ns.length, S)
theorem e_scrLen (i : Nat) (hm : X.mg "len" = none) (hN : X.N[i]? = some y := by rfl) (hv : Vis X.env.scope y := by first | exact Or.inl rfl | exact Or.inr (Or.inl rfl) | exact Or.inr (Or.inr rfl)) (hdy : (y == ("__debug__" : Str)) = false := by decide) (hcd : (y == ("__classdict__" : Str)) = false := by decide)
    (hg : Gl X "len" := by rfl) (he : starEach [.Name y py] X.env = (false, eval (.Name y py) X.env) :: starEach [] X.env := by rfl) : GE X (.Call (.Name "len" p) [.Name y py] [] pos) (gScrLen i) := by
  refine ⟨_, pe_callB call_len hg hm PySem.boot_len (pa_cons (pe_var hN hv hdy hcd) pa_nil he) (by decide) (by decide) he (by rfl), fun A F H S σ d S' Q k h post => ?_⟩
  obtain ⟨ns, e0, h⟩ := bind_inv h
  cases h
  obtain ⟨hz, a, ev, hs⟩ := scr_at k e0
  exact ⟨_, ev, _, _, rfl, .inl ⟨_, k.sub.same.seq hs, (List.length_map _).symm⟩, post A F H _ (List.prefix_refl _) (SameT.refl F) k (.int _)⟩
end
/-- a def of the script that hands back a new list -/
def spScrN (K : PySem.W.Frag) (f : List Int → Option (List D)) : Sp := fun vs H Q _ => ∃ a ns zs, vs = [.ref a] ∧ SqL K H a (ns.map V.int) ∧ ns.length ≤ 63 ∧ f ns = some zs ∧ LamX.Tabs TabsC.T H ∧
  ∀ F p us, SameT H F → F p = none → Rps K F us zs → zs.length ≤ sizeLine → Q (.ref p) (upd F p (.lst us))
def mScrN (n : Nat) (g : Sx → Option Out) : List Int → Option (List D) := fun ns => (g ⟨some (.scr ns) :: List.replicate (n - 1) none, []⟩).bind fun o => match o with
  | .ro j S => cellOf S j
  | _ => none
/-- the law: True -/
def mScr (n : Nat) (g : Sx → Option Out) : List Int → Option D := fun ns => (g ⟨some (.scr ns) :: List.replicate (n - 1) none, []⟩).bind fun o => match o with
  | .rt d _ => some d
  | _ => none
theorem start_scr {K : PySem.W.Frag} {H : Hp} {N : List Str} {a : Addr} {ns : List Int} (h : SqL K H a (ns.map V.int)) (hz : ns.length ≤ 63) (hN : 1 ≤ N.length) (tb : LamX.Tabs TabsC.T H) : Ok K [] H H ⟨some (.scr ns) :: List.replicate (N.length - 1) none, []⟩ (L2.start N [.ref a]) := by
  refine ⟨Sub.refl H, ?_, rfl, List.nodup_nil, fun i r e => ?_, fun j c e => by simp at e, fun b e => by simp at e, tb⟩
  · simp [L2.start]
  · cases i with
    | zero =>
      simp at e
      subst e
      exact ⟨_, rfl, .scr hz h⟩
    | succ i =>
      have := List.mem_of_getElem? (show (List.replicate (N.length - 1) (none : Option R))[i]? = some (some r) by simpa using e)
      rw [List.mem_replicate] at this
      exact nomatch this.2
section
variable {P : Program} {w : World} {K : PySem.W.Frag} {mg : Str → Option Value} {base : Heap} {x qual : Str} {st : Stmt} {f : Addr} {fd : FuncData} {N ps : List Str} {k n : Nat} {g : Sx → Option Out}
theorem fn_scrN (F : Fun K x qual st f fd) (S : FnScope N ps (defScope st)) (hn : ps.length = 1) (hN : 1 ≤ N.length)
    (body : ∀ (cdv : Value) (A : Around) (outer : List Env) (s : Shared) (H : Hp) (E : XK), Room k (A.deeper (envOfC qual (defScope st) s.heap.objs.size f cdv)) → GSs (cxF P w K mg base N qual st f cdv A outer s H E) AnyB (defBody st) g) :
    FnOk P w K mg base CX0 (k + 1) f fd ps (spScrN K (mScrN N.length g)) := by
  refine F.ok S (fun vs H Q E h => by obtain ⟨a, ns, zs, rfl, _⟩ := h; exact hn.symm) fun cdv A outer s H vs Q E hr h => ?_
  obtain ⟨a, ns, zs, rfl, hs, hz, e, tb, post⟩ := h
  obtain ⟨t, p, rd⟩ := (body cdv A outer s H E hr).ex
  refine ⟨t, p, ?_⟩
  obtain ⟨o, e1, e⟩ := bind_inv e
  refine rd H [] [] H H _ _ o _ trivial (SameT.refl H) (List.prefix_refl _) (start_scr hs hz hN tb) e1 ?_
  cases o with
  | nx S => cases e
  | rt d S => cases e
  | bk S => cases e
  | ct S => cases e
  | rs r S => cases e
  | ro j S =>
    intro A1 F1 H1 σ1 a s1 p1 k1 ha
    obtain ⟨us, ec, fa, hv, rc, hz⟩ := cell_at k1 e ha
    have := post (lessH H1 a) a us (s1.trans (less_same k1 fa)) (if_pos rfl) (Rps.mono (less_same k1 fa) _ _ rc) hz
    rwa [less_upd hv] at this
end

/-! ### a def by its name -/
def Has (P : Program) (w : World) (K : PySem.W.Frag) (mg : Str → Option Value) (base : Heap) (x : Str) (k : Nat) (ps : List Str) (sp : Sp) : Prop :=
  ∃ f fd, mg x = some (.ref f) ∧ PySem.W.keepIn K (.ref f) = true ∧ L2.Binds K fd ps [] ∧ FnOk P w K mg base CX0 k f fd ps sp
def DefAt (K : PySem.W.Frag) (mg : Str → Option Value) (x : Str) (st : Stmt) (ps : List Str) : Prop := ∃ f fd, mg x = some (.ref f) ∧ Fun K x x st f fd ∧ L2.Binds K fd ps []
theorem Has.imp {P : Program} {w : World} {K : PySem.W.Frag} {mg : Str → Option Value} {base : Heap} {x : Str} {k : Nat} {ps : List Str} {sp sp' : Sp} (h : Has P w K mg base x k ps sp) (i : ∀ vs H Q E, sp' vs H Q E → sp vs H Q E) : Has P w K mg base x k ps sp' :=
  let ⟨f, fd, a, b, c, F⟩ := h; ⟨f, fd, a, b, c, F.imp i⟩
section
variable {P : Program} {w : World} {K : PySem.W.Frag} {mg : Str → Option Value} {base : Heap} {x : Str} {st : Stmt} {N ps : List Str} {k n : Nat} {g : Sx → Option Out}
abbrev Body (P : Program) (w : World) (K : PySem.W.Frag) (mg : Str → Option Value) (base : Heap) (N : List Str) (x : Str) (st : Stmt) (k : Nat) (Pb : Hp → Prop) (g : Sx → Option Out) : Prop :=
  ∀ (f : Addr) (cdv : Value) (A : Around) (outer : List Env) (s : Shared) (H : Hp) (E : XK), Room k (A.deeper (envOfC x (defScope st) s.heap.objs.size f cdv)) → GSs (cxF P w K mg base N x st f cdv A outer s H E) Pb (defBody st) g
theorem has_pure (D : DefAt K mg x st ps) (S : FnScope N ps (defScope st)) (hn : ps.length = n) (hN : n ≤ N.length) (body : Body P w K mg base N x st k AnyB g) : Has P w K mg base x (k + 1) ps (spF K n (mF N.length g)) :=
  let ⟨f, fd, m, F, b⟩ := D; ⟨f, fd, m, F.kp, b, fn_pure F S hn hN (body f)⟩
theorem has_io (D : DefAt K mg x st ps) (S : FnScope N ps (defScope st)) (hn : ps.length = n + 1) (hN : n + 1 ≤ N.length) (body : Body P w K mg base N x st k AnyB g) : Has P w K mg base x (k + 1) ps (spIO K n (mIO N.length g)) :=
  let ⟨f, fd, m, F, b⟩ := D; ⟨f, fd, m, F.kp, b, fn_io F S hn hN (body f)⟩
theorem has_scrN (D : DefAt K mg x st ps) (S : FnScope N ps (defScope st)) (hn : ps.length = 1) (hN : 1 ≤ N.length) (body : Body P w K mg base N x st k AnyB g) : Has P w K mg base x (k + 1) ps (spScrN K (mScrN N.length g)) :=
  let ⟨f, fd, m, F, b⟩ := D; ⟨f, fd, m, F.kp, b, fn_scrN F S hn hN (body f)⟩
end
section
variable {X : Cx} {pos p p2 py : Pos} {x y : Str} {e : Expr} {es : List Expr} {gs : M (List D)} {k n : Nat} {ps : List Str}
theorem e_callH {f : List D → Option D} (h : Has X.prog X.w X.K X.mg X.base x k ps (spF X.K n f)) (hr : Room k X.A) (ha : GA X (e :: es) gs) (hg : Gl X x := by rfl) (hdb : (x == ("__debug__" : Str)) = false := by decide)
    (he : starEach (e :: es) X.env = (false, eval e X.env) :: starEach es X.env := by rfl) (hpl : (backTo pos (starEach es X.env)).any (·.1) = false := by rfl) : GE X (.Call (.Name x p) (e :: es) [] pos) (gCallF n f gs) :=
  let ⟨fa, fd, m, kp, b, F⟩ := h; e_call F hr m kp b pass0 ha hg hdb he hpl
theorem e_callHIO {f : List D → List D → Option (D × List D)} (i : Nat) (h : Has X.prog X.w X.K X.mg X.base x k ps (spIO X.K n f)) (hr : Room k X.A) (ha : GA X es gs)
    (hN : X.N[i]? = some y := by rfl) (hv : Vis X.env.scope y := by first | exact Or.inl rfl | exact Or.inr (Or.inl rfl) | exact Or.inr (Or.inr rfl)) (hdy : (y == ("__debug__" : Str)) = false := by decide) (hcd : (y == ("__classdict__" : Str)) = false := by decide)
    (hg : Gl X x := by rfl) (hdb : (x == ("__debug__" : Str)) = false := by decide) (he : starEach (.Name y py :: es) X.env = (false, eval (.Name y py) X.env) :: starEach es X.env := by rfl) (hpl : (backTo pos (starEach es X.env)).any (·.1) = false := by rfl) :
    GE X (.Call (.Name x p) (.Name y py :: es) [] pos) (gIO i n f gs) :=
  let ⟨fa, fd, m, kp, b, F⟩ := h; e_callIO i F hr m kp b pass0 ha hN hv hdy hcd hg hdb he hpl
theorem mix_new {F1 H1 F' : Hp} {p : Addr} {o : HO} (hp : mixH F1 H1 (upd F' p o) p = some o) (hn : F' p = none) : mixH F1 H1 (upd F' p o) = upd (mixH F1 H1 F') p o := by
  funext b
  by_cases hb : b = p
  · subst hb; rw [upd_same, hp]
  · rw [upd_ne hb]
    unfold mixH
    rw [upd_ne hb]
theorem n_callH {f : List D → Option (List D)} (h : Has X.prog X.w X.K X.mg X.base x k ps (spN X.K n f)) (hr : Room k X.A) (ha : GA X (e :: es) gs) (hg : Gl X x := by rfl) (hdb : (x == ("__debug__" : Str)) = false := by decide)
    (he : starEach (e :: es) X.env = (false, eval e X.env) :: starEach es X.env := by rfl) (hpl : (backTo pos (starEach es X.env)).any (·.1) = false := by rfl) : GN X (.Call (.Name x p) (e :: es) [] pos) (gCallN n f gs) := by
  obtain ⟨fa, fd, m, kp, b, F⟩ := h
  obtain ⟨t, pa, ra⟩ := ha.ex
  refine ⟨_, pe_callF F hr hg m kp b .nil pass0 pa hdb he hpl, fun A F H S σ d S' Q k h post => ?_⟩
  obtain ⟨⟨ds, S1⟩, h1, h⟩ := bind_inv h
  simp only at h
  split at h
  · rename_i hn
    obtain ⟨z, h2, h⟩ := bind_inv h
    cases h
    refine ra A F H S σ ds _ _ k h1 fun A1 F1 H1 vs p1 s1 k1 r1 => ⟨F1, k1.sub, ds, z, hn, by rw [List.append_nil]; exact r1, h2, k1.tab, fun F' L us sm hL ru hz => ⟨fun b xs q => by
      rw [upd_ne (ne_of_none (sm.old b _ q trivial) hL)]; exact sm.old b _ q trivial, fun lost => ?_⟩⟩
    have lostF : ∀ b o, H1 b = some o → F1 b = none → F' b = none := fun b o ho hf => by
      have := lost b o ho hf
      by_cases hb : b = L
      · subst hb; exact hL
      · rwa [upd_ne hb] at this
    have hLH : H1 L = none := by
      cases q : H1 L with
      | none => rfl
      | some u =>
        cases q2 : F1 L with
        | none => have := lost L u q q2; rw [upd_same] at this; cases this
        | some v => obtain ⟨v', e'⟩ := sm.stay L v q2; rw [e'] at hL; cases hL
    rw [mix_new (by rw [mix_free hLH, upd_same]) hL]
    exact post A1 F' _ L us z p1 (s1.trans sm) (k1.mix sm lostF) (by rw [mix_free hLH]; exact hL) rfl ru hz
  · cases h
def gCallScr (i : Nat) (f : List Int → Option (List D)) : M D := fun S => (scrOf S i).bind fun ns => (f ns).bind fun z => some (.list z, S)
theorem n_callScr {f : List Int → Option (List D)} (i : Nat) (h : Has X.prog X.w X.K X.mg X.base x k ps (spScrN X.K f)) (hr : Room k X.A)
    (hN : X.N[i]? = some y := by rfl) (hv : Vis X.env.scope y := by first | exact Or.inl rfl | exact Or.inr (Or.inl rfl) | exact Or.inr (Or.inr rfl)) (hdy : (y == ("__debug__" : Str)) = false := by decide) (hcd : (y == ("__classdict__" : Str)) = false := by decide)
    (hg : Gl X x := by rfl) (hdb : (x == ("__debug__" : Str)) = false := by decide) (he : starEach [.Name y py] X.env = (false, eval (.Name y py) X.env) :: starEach [] X.env := by rfl) : GN X (.Call (.Name x p) [.Name y py] [] pos) (gCallScr i f) := by
  obtain ⟨fa, fd, m, kp, b, F⟩ := h
  refine ⟨_, pe_callF F hr hg m kp b .nil pass0 (pa_cons (pe_var hN hv hdy hcd) pa_nil he) hdb he (by rfl), fun A F H S σ d S' Q k h post => ?_⟩
  obtain ⟨ns, h1, h⟩ := bind_inv h
  obtain ⟨z, h2, h⟩ := bind_inv h
  cases h
  obtain ⟨hz, a, ev, hs⟩ := scr_at k h1
  refine ⟨_, ev, F, k.sub, a, ns, z, by rfl, hs, hz, h2, k.tab, fun F' L us sm hL ru hz => ⟨fun b xs q => by
      rw [upd_ne (ne_of_none (sm.old b _ q trivial) hL)]; exact sm.old b _ q trivial, fun lost => ?_⟩⟩
  have lostF : ∀ b o, H b = some o → F b = none → F' b = none := fun b o ho hf => by
    have := lost b o ho hf
    by_cases hb : b = L
    · subst hb; exact hL
    · rwa [upd_ne hb] at this
  have hLH : H L = none := by
    cases q : H L with
    | none => rfl
    | some u =>
      cases q2 : F L with
      | none => have := lost L u q q2; rw [upd_same] at this; cases this
      | some v => obtain ⟨v', e'⟩ := sm.stay L v q2; rw [e'] at hL; cases hL
  rw [mix_new (by rw [mix_free hLH, upd_same]) hL]
  exact post A F' _ L us z (List.prefix_refl _) sm (k.mix sm lostF) (by rw [mix_free hLH]; exact hL) rfl ru hz
theorem e_gintE {i : Int} (hm : ∃ t, X.mg x = some (.int i t)) (hg : Gl X x := by rfl) (hd : (x == ("__debug__" : Str)) = false := by decide) : GE X (.Name x pos) (gC (.int i)) := let ⟨_, m⟩ := hm; e_gint m hg hd
end
end Fu

set_option maxHeartbeats 4000000
namespace Fu
open PySem PySem.Spec PyProof.Rows L2 RZ
variable [TabsC]

section
variable {K : PySem.W.Frag} {F H : Hp}
theorem vals_at {vs : List V} {us : List Value} (r : Vals vs us) {i : Nat} {u : Value} (h : us[i]? = some u) : ∃ v, vs[i]? = some v ∧ RelV v u := by
  cases e : vs[i]? with
  | none => rw [r.none_of e] at h; cases h
  | some v =>
    obtain ⟨w, h1, h2⟩ := r.get e
    rw [h] at h1; cases h1
    exact ⟨v, rfl, h2⟩
end

/-! ### sorted(xs) of data -/
def sortOk (xs : List D) : Bool := (xs.all fun d => xs.all fun e => PySem.W.alike d e) && ((xs.all fun d => match d with
  | .tuple (_ :: _) => true
  | _ => false) || (xs.all fun d => match d with
  | .none => false
  | .tuple _ => false
  | _ => true)) && xs.all fun d => d.depth ≤ 20 && d.canLay0
abbrev leD : D → D → Bool := PySem.W.dataLe false (fun d : D => d)
def dSorted : List D → Option D
  | [.list xs] => if sortOk xs = true then some (.list (xs.mergeSort leD)) else none
  | [.tuple xs] => none
  | _ => none
theorem sortOk_all {xs : List D} (h : sortOk xs = true) : PySem.W.AllAlike xs ∧ PySem.W.Sortable xs ∧ ∀ d ∈ xs, d.depth ≤ 20 ∧ d.canLay0 = true := by
  unfold sortOk at h
  rw [Bool.and_eq_true, Bool.and_eq_true, Bool.or_eq_true] at h
  obtain ⟨⟨h1, h2⟩, h3⟩ := h
  refine ⟨fun d hd e he => List.all_eq_true.mp (List.all_eq_true.mp h1 d hd) e he, ?_, fun d hd => ?_⟩
  · rcases h2 with h2 | h2
    · refine .inl fun d hd => ?_
      have := List.all_eq_true.mp h2 d hd
      split at this
      · exact ⟨_, _, rfl⟩
      · cases this
    · refine .inr fun d hd => ?_
      have := List.all_eq_true.mp h2 d hd
      refine ⟨fun e => ?_, fun ys e => ?_⟩
      · rw [e] at this; cases this
      · rw [e] at this; cases this
  · have := List.all_eq_true.mp h3 d hd
    rw [Bool.and_eq_true] at this
    exact ⟨of_decide_eq_true this.1, this.2⟩
/-- its reading: values and data side by side -/
def rSorted (K : PySem.W.Frag) : List V → Hp → VK → Prop := fun xs H Q => ∃ (a : Addr) (ps : List (V × D)), xs = [.ref a] ∧ SqL K H a (ps.map (·.1)) ∧ (∀ p ∈ ps, Dp K H p.1 p.2) ∧ sortOk (ps.map (·.2)) = true ∧ ps.length ≤ sizeLine ∧
  ∀ p, H p = none → Q (.ref p) (upd H p (.lst ((ps.mergeSort (PySem.W.dataLe false fun q : V × D => q.2)).map (·.1))))
theorem each_mk {X : Cx} {pins : List (Addr × Obj)} {σ : L2.St} {H : Hp} {s : Shared} (I : Inv X pins σ H s) : ∀ {ps : List (V × D)} {us : List Value}, Vals (ps.map (·.1)) us → (∀ p ∈ ps, Dp X.K H p.1 p.2) →
    PySem.W.EachIs (fun (v : Value) (b : V × D) => RelV b.1 v) us ps ∧ PySem.W.EachIs (fun (v : Value) (b : V × D) => ∃ as, Reads s.heap v b.2 as) us ps
  | [], us, r, _ => by cases r; exact ⟨.nil, .nil⟩
  | p :: ps, us, r, h => by
    rw [List.map_cons] at r
    cases r with
    | cons r1 r2 =>
      obtain ⟨a, b⟩ := each_mk I r2 fun q hq => h q (List.mem_cons_of_mem _ hq)
      exact ⟨.cons r1 a, .cons (Dp.reads I _ _ _ (h p List.mem_cons_self) r1) b⟩
theorem each_vals : ∀ {ps : List (V × D)} {us : List Value}, PySem.W.EachIs (fun (v : Value) (b : V × D) => RelV b.1 v) us ps → Vals (ps.map (·.1)) us
  | [], _, .nil => .nil
  | _ :: _, _, .cons r t => .cons r (each_vals t)
theorem call_sortedAll {X : Cx} {k : Nat} (hr : Room k X.A) : CallR X (.builtin "sorted") (rSorted X.K) := by
  intro pins s σ H xs us Q I r h
  obtain ⟨a, ps, rfl, hs, hd, so, hz, q⟩ := h
  obtain ⟨u, rfl, ru⟩ := vals1 r
  cases ru
  obtain ⟨its, rv, pl, hzl⟩ := I.list hs
  obtain ⟨e1, e2⟩ := each_mk I rv hd
  obtain ⟨al, sb, dp⟩ := sortOk_all so
  have hun := hr.un
  refine PySem.W.sorted_data (β := V × D) (enc := fun b => b.2) pl.isList e1 e2 al sb hz (fun b hb => ?_) fun out ho eo => ?_
  · have := (dp b.2 (List.mem_map.mpr ⟨b, hb, rfl⟩)).1
    omega
  · have rv2 := each_vals eo
    obtain ⟨c, hc⟩ := sortedAll_at s.heap its out.toArray
    refine ⟨.ref (s.heap.objs.size + 1), _, I.laid (t' := s.toks) (o := .lst ((ps.mergeSort (PySem.W.dataLe false fun q : V × D => q.2)).map (·.1))) (fun b o hb => sortedAll_old hb) (Nat.le_succ _) ⟨?_, out, c, rv2, hc⟩, rfl, q _ (I.hok.fresh (Nat.le_succ _))⟩
    rw [List.length_map, List.length_mergeSort]
    exact hz
theorem zip_rps {K : PySem.W.Frag} {F : Hp} : ∀ {vs : List V} {ds : List D}, Rps K F vs ds → (vs.zip ds).map (·.1) = vs ∧ (vs.zip ds).map (·.2) = ds ∧ ∀ p ∈ vs.zip ds, Rp K F p.1 p.2
  | _, [], h => by cases h; exact ⟨rfl, rfl, fun p hp => by cases hp⟩
  | _, d :: ds, h => by
    cases h with
    | cons h1 h2 =>
      obtain ⟨a, b, c⟩ := zip_rps h2
      refine ⟨by rw [List.zip_cons_cons, List.map_cons, a], by rw [List.zip_cons_cons, List.map_cons, b], fun p hp => ?_⟩
      rw [List.zip_cons_cons] at hp
      rcases List.mem_cons.mp hp with rfl | hp
      · exact h1
      · exact c p hp
theorem rps_zip {K : PySem.W.Frag} {F : Hp} : ∀ {ps : List (V × D)}, (∀ p ∈ ps, Rp K F p.1 p.2) → Rps K F (ps.map (·.1)) (ps.map (·.2))
  | [], _ => .nil
  | p :: ps, h => .cons (h p List.mem_cons_self) (rps_zip fun q hq => h q (List.mem_cons_of_mem _ hq))
theorem rd_sorted {K : PySem.W.Frag} : RdC K (rSorted K) dSorted := by
  intro A F H S σ xs ds z Q k r h post
  unfold dSorted at h
  split at h
  · split at h
    · rename_i ys hso
      cases h
      obtain ⟨v, rfl, rv⟩ := rps1 r
      obtain ⟨a, vs, rfl, h1, h2, h3⟩ := rp_list_inv rv
      obtain ⟨z1, z2, z3⟩ := zip_rps h2
      have hl : (vs.zip ys).length = ys.length := by rw [List.length_zip, h2.length]; omega
      refine ⟨a, vs.zip ys, rfl, SqL.of (by rw [z1]; exact k.sub.same _ _ h1), fun p hp => ?_, by rw [z2]; exact hso, by rw [hl]; exact h3, fun p hp => ?_⟩
      · exact Rp.dp _ _ ((sortOk_all hso).2.2 p.2 (by rw [← z2]; exact List.mem_map.mpr ⟨p, hp, rfl⟩)).2 ((z3 p hp).mono k.sub.same.t _ _)
      · have e2 : ((vs.zip ys).mergeSort (PySem.W.dataLe false fun q : V × D => q.2)).map (·.2) = ys.mergeSort leD := by
          have := List.map_mergeSort (s := leD) (r := PySem.W.dataLe false fun q : V × D => q.2) (f := fun q : V × D => q.2) (l := vs.zip ys) (fun a _ b _ => rfl)
          rw [this, z2]
        have rr := rps_zip (K := K) (F := F) (ps := (vs.zip ys).mergeSort (PySem.W.dataLe false fun q : V × D => q.2)) fun p hp => z3 p (List.mem_mergeSort.mp hp)
        rw [e2] at rr
        obtain ⟨s1, k1, r1⟩ := k.newList hp rr (by rw [List.length_mergeSort]; exact h3)
        exact post _ _ _ s1 k1 r1
    · cases h
  · cases h
  · cases h

/-! ### max(xs), min(xs) of data -/
def pickOk (xs : List D) : Bool := (xs.all fun d => xs.all fun e => PySem.W.alike d e) && (xs.all fun d => match d with
  | .none => false
  | _ => true) && decide (PyData.depthAll xs ≤ 20) && PyData.canLayAll0 xs
def rPick (K : PySem.W.Frag) (f : D → List D → D) : List V → Hp → VK → Prop := fun xs H Q => ∃ (a : Addr) (vs : List V) (d : D) (ds : List D), xs = [.ref a] ∧ (SqL K H a vs ∨ SqT K H a vs) ∧ DpAll K H vs (d :: ds) ∧ PySem.W.AlikeAll (d :: ds) ∧ PyData.depthAll (d :: ds) ≤ 20 ∧
  ∀ (i : Nat) v, vs[i]? = some v → (d :: ds)[i]? = some (f d ds) → Q v H

theorem call_maxD {X : Cx} {k : Nat} (hr : Room k X.A) (hc : X.calm = true) : CallR X (.builtin "max") (rPick X.K PySem.W.maxD) := by
  intro pins s σ H xs us Q I r h
  obtain ⟨a, vs, d, ds, rfl, hs, hd, al, dp, q⟩ := h
  obtain ⟨u, rfl, ru⟩ := vals1 r
  cases ru
  have hun := hr.un
  have fin : ∀ {its : List Value} {as : List Addr} (i : Nat) (v : Value) (h' : Heap) (tk : Nat) (bs : List Addr), Vals vs its → ReadsAll s.heap its (d :: ds) as → its[i]? = some v → Reads h' v (PySem.W.maxD d ds) bs → (∀ b o, s.heap.get? b = some o → h'.get? b = some o) →
      EP X pins σ Q v { s with heap := h', toks := tk } := by
    intro its as i v h' tk bs rv ra hi rd kk
    obtain ⟨w, hw, rw'⟩ := vals_at rv hi
    obtain ⟨cs, rc, hlt, _, _⟩ := PySem.W.readsAll_at ra i v hi
    obtain ⟨e, _⟩ := PyProof.Rows.reads_det (fun b o e _ => e) (Reads.keeps kk rc) rd
    refine ⟨w, H, I.kept kk, rw', q i w hw ?_⟩
    rw [e, List.getD_eq_getElem?_getD, List.getElem?_eq_getElem hlt]
    rfl
  rcases hs with hs | hs
  · obtain ⟨its, rv, pl, hz⟩ := I.list hs
    obtain ⟨as, ra⟩ := Dp.readsAll I (d :: ds) vs its hd rv
    exact PySem.W.max_list_data (I.ok.hd hc) pl.isList (by simpa using ra) al (by omega) fun i v h' tk bs hi rd kk => fin i v h' tk bs rv ra (by simpa using hi) rd kk
  · obtain ⟨its, rv, pl, hz⟩ := I.tuple hs
    obtain ⟨as, ra⟩ := Dp.readsAll I (d :: ds) vs its hd rv
    exact PySem.W.max_tuple_data (I.ok.hd hc) (show s.heap.IsTuple a its.toArray from pl) (by simpa using ra) al (by omega) fun i v h' tk bs hi rd kk => fin i v h' tk bs rv ra (by simpa using hi) rd kk

theorem pickOk_all {xs : List D} (h : pickOk xs = true) : PySem.W.AlikeAll xs ∧ PyData.depthAll xs ≤ 20 ∧ PyData.canLayAll0 xs = true := by
  unfold pickOk at h
  simp only [Bool.and_eq_true] at h
  obtain ⟨⟨⟨h1, h2⟩, h3⟩, h4⟩ := h
  refine ⟨⟨fun d hd e he => List.all_eq_true.mp (List.all_eq_true.mp h1 d hd) e he, fun d hd e => ?_⟩, of_decide_eq_true h3, h4⟩
  have := List.all_eq_true.mp h2 d hd
  rw [e] at this; cases this
def dPick (f : D → List D → D) : List D → Option D
  | [.list (d :: ds)] => if pickOk (d :: ds) = true then some (f d ds) else none
  | [.tuple (d :: ds)] => if pickOk (d :: ds) = true then some (f d ds) else none
  | _ => none
theorem rd_pick {K : PySem.W.Frag} (f : D → List D → D) : RdC K (rPick K f) (dPick f) := by
  intro A F H S σ xs ds z Q k r h post
  unfold dPick at h
  split at h
  · split at h
    · rename_i d ys hso
      cases h
      obtain ⟨v, rfl, rv⟩ := rps1 r
      obtain ⟨a, vs, rfl, h1, h2, h3⟩ := rp_list_inv rv
      obtain ⟨p1, p2, p3⟩ := pickOk_all hso
      refine ⟨a, vs, d, ys, rfl, .inl (SqL.of (k.sub.same _ _ h1)), Rps.dp _ _ p3 (Rps.mono k.sub.same.t _ _ h2), p1, p2, fun i v hv hd => ?_⟩
      obtain ⟨w, hw, rw'⟩ := h2.get hd
      rw [hv] at hw; cases hw
      exact post F H v (SameT.refl F) k rw'
    · cases h
  · split at h
    · rename_i d ys hso
      cases h
      obtain ⟨v, rfl, rv⟩ := rps1 r
      obtain ⟨a, vs, rfl, h1, h2, h3⟩ := rp_tup_inv rv
      obtain ⟨p1, p2, p3⟩ := pickOk_all hso
      refine ⟨a, vs, d, ys, rfl, .inr (sqT_same k.sub.same.t h1), Rps.dp _ _ p3 (Rps.mono k.sub.same.t _ _ h2), p1, p2, fun i v hv hd => ?_⟩
      obtain ⟨w, hw, rw'⟩ := h2.get hd
      rw [hv] at hw; cases hw
      exact post F H v (SameT.refl F) k rw'
    · cases h
  · cases h
/-! ### sum(xs) of ints -/
def allInts : List D → Option (List Int)
  | [] => some []
  | .int b :: ds => (allInts ds).bind fun bs => some (b :: bs)
  | _ => none
theorem allInts_map : ∀ {ds : List D} {bs : List Int}, allInts ds = some bs → ds = bs.map .int
  | [], _, h => by cases h; rfl
  | .int b :: ds, _, h => by
    obtain ⟨bs, h1, h2⟩ := bind_inv h
    cases h2
    rw [List.map_cons, allInts_map h1]
  | .none :: _, _, h => by simp [allInts] at h
  | .bool _ :: _, _, h => by simp [allInts] at h
  | .str _ :: _, _, h => by simp [allInts] at h
  | .list _ :: _, _, h => by simp [allInts] at h
  | .tuple _ :: _, _, h => by simp [allInts] at h
  | .dict _ :: _, _, h => by simp [allInts] at h
theorem allInts_of : ∀ bs : List Int, allInts (bs.map .int) = some bs
  | [] => rfl
  | b :: bs => by
    show (allInts (bs.map .int)).bind _ = _
    rw [allInts_of bs]; rfl
theorem rps_ints {K : PySem.W.Frag} {F : Hp} : ∀ {vs : List V} {bs : List Int}, Rps K F vs (bs.map .int) → vs = bs.map V.int
  | _, [], h => by cases h; rfl
  | _, b :: bs, h => by
    cases h with
    | cons h1 h2 => rw [rp_int_inv h1, rps_ints h2]; rfl
def dSum : List D → Option D
  | [.list xs] => (allInts xs).bind fun bs => some (.int bs.sum)
  | _ => none
theorem rd_sum {K : PySem.W.Frag} : RdC K (rSum K) dSum := by
  intro A F H S σ xs ds z Q k r h post
  unfold dSum at h
  split at h
  · obtain ⟨bs, h1, h2⟩ := bind_inv h
    cases h2
    obtain ⟨v, rfl, rv⟩ := rps1 r
    obtain ⟨a, vs, rfl, g1, g2, g3⟩ := rp_list_inv rv
    rw [allInts_map h1] at g2
    rw [rps_ints g2] at g1
    exact ⟨a, bs, rfl, SqL.of (k.sub.same _ _ g1), post F H _ (SameT.refl F) k (.int _)⟩
  · cases h
section
variable {X : Cx} {pos p p2 : Pos} {e : Expr} {es : List Expr} {gs : M (List D)} {k : Nat}
theorem e_sorted (hr : Room k X.A) (hm : X.mg "sorted" = none) (ha : GA X [e] gs) (hg : Gl X "sorted" := by rfl) (he : starEach [e] X.env = (false, eval e X.env) :: starEach [] X.env := by rfl) : GE X (.Call (.Name "sorted" p) [e] [] pos) (gCall dSorted gs) :=
  e_callB (call_sortedAll hr) rd_sorted hm (by decide +kernel) ha hg (he := he) (hpl := by rfl)
theorem e_max (hr : Room k X.A) (hm : X.mg "max" = none) (ha : GA X [e] gs) (hc : X.calm = true := by rfl) (hg : Gl X "max" := by rfl) (he : starEach [e] X.env = (false, eval e X.env) :: starEach [] X.env := by rfl) : GE X (.Call (.Name "max" p) [e] [] pos) (gCall (dPick PySem.W.maxD) gs) :=
  e_callB (call_maxD hr hc) (rd_pick _) hm (by decide +kernel) ha hg (he := he) (hpl := by rfl)
theorem e_sum (hm : X.mg "sum" = none) (ha : GA X [e] gs) (hc : X.calm = true := by rfl) (hg : Gl X "sum" := by rfl) (he : starEach [e] X.env = (false, eval e X.env) :: starEach [] X.env := by rfl) : GE X (.Call (.Name "sum" p) [e] [] pos) (gCall dSum gs) :=
  e_callB (cr_sum hc) rd_sum hm (by decide +kernel) ha hg (he := he) (hpl := by rfl)
end
end Fu

set_option maxHeartbeats 4000000
namespace Fu
open PySem PySem.Spec PyProof.Rows L2
variable [TabsC]
/-! ### list(range(..)), xs[::-1], len(set(ints)) -/
section
variable {X : Cx} {pos p p2 p3 p4 : Pos} {a b e e2 : Expr} {ga gb ge ge2 : M D}
def gListRng1 (g : M D) : M D := fun S => (g S).bind fun q => match q.1 with
  | .int j => if -4611686018427387904 ≤ j ∧ j ≤ 16777216 then some (.list (rng 0 j.toNat), q.2) else none
  | _ => none
/-- how many unlike ones -/
def unlike (ns : List Int) : Nat := (PyProof.Rows.firstMet (fun i => ns.getD i 0) ns.length).length
end
end Fu

set_option maxHeartbeats 4000000
namespace Fu
open PySem PySem.Spec PyProof.Rows L2
variable [TabsC]
/-! ### promises of functions that may ask what is being shown: with no show under way around them -/
structure FnG (P : Program) (w : World) (K : PySem.W.Frag) (mg : Str → Option Value) (base : Heap) (k : Nat) (fa : Addr) (fd : FuncData) (ps : List Str) (sp : Sp) : Prop where
  len : ∀ vs H Q E, sp vs H Q E → vs.length = ps.length
  go : ∀ (A : Around) (out : List Env) (t : Shared) (H : Hp) (ar : Args) (us : List Value) (vs : List V) (Q : VK) (E : XK), Room k A → A.guards = some [] → Env0 P w K mg base A out t H → BindsTo t fd ar (ps.zip us) → Vals vs us → sp vs H Q E →
    codeAny (model P w) A (.call (.ref fa) ar) (CR CX0 out P w H t Q E) t
section
variable {P : Program} {w : World} {K : PySem.W.Frag} {mg : Str → Option Value} {base : Heap} {x qual : Str} {st : Stmt} {f : Addr} {fd : FuncData} {N ps : List Str} {k n : Nat} {sp : Sp}
theorem FnG.of (F : FnOk P w K mg base CX0 k f fd ps sp) : FnG P w K mg base k f fd ps sp := ⟨F.len, fun A out t H ar us vs Q E hr _ => F.run A out t H ar us vs Q E hr⟩
end
section
variable {X : Cx} {k : Nat} {f : Addr} {fd : FuncData} {ps : List Str} {sp : Sp} {E : XK} {x : Str} {p pos : Pos} {e : Expr} {es : List Expr} {t : TA}
end
/-! ### the law's call, from such a promise -/
end Fu

set_option maxHeartbeats 4000000
namespace Fu
open PySem PySem.Spec PyProof.Rows L2
variable [TabsC]
/-! ### defs whose promise wants that no show is under way -/
section
variable {P : Program} {w : World} {K : PySem.W.Frag} {mg : Str → Option Value} {base : Heap} {x qual : Str} {st : Stmt} {f : Addr} {fd : FuncData} {N ps : List Str} {k n : Nat} {g : Sx → Option Out}
end
section
variable {X : Cx} {pos p p2 : Pos} {x : Str} {e : Expr} {es : List Expr} {gs : M (List D)} {f : List D → Option D} {k n : Nat} {fa : Addr} {fd : FuncData} {ps : List Str} {E : XK}
end
section
variable {P : Program} {w : World} {K : PySem.W.Frag} {mg : Str → Option Value} {base : Heap} {x : Str} {st : Stmt} {N ps : List Str} {k n : Nat} {g : Sx → Option Out}
end
section
variable {X : Cx} {pos p p2 py : Pos} {x y : Str} {e : Expr} {es : List Expr} {gs : M (List D)} {k n : Nat} {ps : List Str}
end
end Fu

set_option maxHeartbeats 4000000
namespace Fu
open PySem PySem.Spec PyProof.Rows L2
variable [TabsC]
/-! ### repr of lists and tuples -/
def showOk (d : D) : Bool := d.showable && !d.hasDict && d.canLay0 && decide (d.depth ≤ 60) && decide (d.shown.length ≤ 16777216)
section
variable {X : Cx} {pos p p2 : Pos} {e : Expr} {es : List Expr} {gs : M (List D)} {k : Nat}
end
end Fu

set_option maxHeartbeats 4000000
namespace Fu
open PySem PySem.Spec PyProof.Rows L2
variable [TabsC]
/-! ### a < b < c, list + list as a new list -/
section
variable {X : Cx} {pos p p2 : Pos} {a b c e : Expr} {ga gb gc : M D} {op op' : CmpOp}
end
end Fu

set_option maxHeartbeats 4000000
namespace Fu
open PySem PySem.Spec PyProof.Rows L2
variable [TabsC]
/-! ### xs.count(x), slices as new lists -/
section
variable {X : Cx} {pos p p2 apos : Pos} {a b e o : Expr} {ga gb ge go : M D} {k : Nat} {gl gh : M (Option Int)} {lo hi : Option Expr}
/-- a slice of a list is a new list -/
def gNewL (g : M D) : M D := fun S => (g S).bind fun p => match p.1 with
  | .list ds => some (.list ds, p.2)
  | _ => none
theorem n_sl (ha : GE X a ga) (hl : GO X lo gl) (hh : GO X hi gh) : GN X (.Subscript a (.Slice lo hi none p) pos) (gNewL (gSl ga gl gh)) := by
  obtain ⟨_, pa, ra⟩ := ha.ex
  obtain ⟨_, pl, rl⟩ := hl.ex
  obtain ⟨_, ph, rh⟩ := hh.ex
  refine ⟨_, pe_slice sl_list pa pl ph, fun A F H S σ d S' Q k h post => ?_⟩
  obtain ⟨⟨z, S4⟩, h0, h⟩ := bind_inv h
  obtain ⟨⟨x, S1⟩, h1, h0⟩ := bind_inv h0
  obtain ⟨⟨y, S2⟩, h2, h0⟩ := bind_inv h0
  obtain ⟨⟨w, S3⟩, h3, h0⟩ := bind_inv h0
  obtain ⟨z', h4, h0⟩ := bind_inv h0
  cases h0
  cases z <;> simp only at h <;> cases h
  cases x <;> simp only [dSl] at h4 <;> cases h4
  refine ra A F H S σ _ _ _ k h1 fun A1 F1 H1 v p1 s1 k1 r1 => ?_
  refine rl A1 F1 H1 _ σ _ _ _ k1 h2 fun A2 F2 H2 p2 s2 k2 => ?_
  refine rh A2 F2 H2 _ σ _ _ _ k2 h3 fun A3 F3 H3 p3 s3 k3 => ?_
  obtain ⟨l, vs, rfl, g1, g2, g3⟩ := rp_list_inv (r1.mono (s2.trans s3) _ _)
  exact ⟨l, vs, rfl, SqL.of (k3.sub.same _ _ g1), fun q hq => post A3 F3 H3 q _ _ ((p1.trans p2).trans p3) (s1.trans (s2.trans s3)) k3 hq rfl (rps_cut g2 _ _) (Nat.le_trans (cutL_le _ _ _) g3)⟩
end
end Fu

set_option maxHeartbeats 4000000
namespace Fu
open PySem PySem.Spec PyProof.Rows L2
variable [TabsC]
/-! ### an item of an own list as a target among others -/
section
variable {X : Cx} {pos p p2 py : Pos} {y : Str} {b : Expr} {gb : M D} {tgt : List Nat}
end
end Fu

set_option maxHeartbeats 4000000
namespace Fu
open PySem PySem.Spec PyProof.Rows L2
variable [TabsC]
/-! ### a def that calls itself, where it may go no deeper: nothing is promised -/
section
variable {P : Program} {w : World} {K : PySem.W.Frag} {mg : Str → Option Value} {base : Heap} {x : Str} {st : Stmt} {ps : List Str} {k n : Nat}
theorem has_none_io (D : DefAt K mg x st ps) (hn : ps.length = n + 1) : Has P w K mg base x k ps (spIO K n fun _ _ => none) :=
  let ⟨f, fd, m, F, b⟩ := D; ⟨f, fd, m, F.kp, b, ⟨fun vs H Q E h => (by obtain ⟨_, _, _, _, _, _, _, _, _, _, _, _, _, _, _, h, _⟩ := h; cases h), fun A outer s H args us vs Q E _ _ _ _ h => (by obtain ⟨_, _, _, _, _, _, _, _, _, _, _, _, _, _, _, h, _⟩ := h; cases h)⟩⟩
end
end Fu

set_option maxHeartbeats 4000000
namespace Fu
open PySem PySem.Spec PyProof.Rows L2 RZ
variable [TabsC]
/-! ### slices of a list that is written: the list stays one's own -/
section
variable {X : Cx} {P : Hp → Prop} {pos py p p2 p3 p4 apos : Pos} {x y : Str} {a b c d e : Expr} {es : List Expr} {ga gb gc gd ge : M D} {gs : M (List D)} {lo hi : Option Expr} {gl gh : M (Option Int)}
/-! ### xs += e, a list that is written -/
/-! ### the script: walked, as a list -/
/-! ### enumerate(xs) -/
def enumD : Nat → List D → List D
  | _, [] => []
  | n, x :: xs => .tuple [.int (n : Int), x] :: enumD (n + 1) xs
theorem enumD_len : ∀ (n : Nat) (xs : List D), (enumD n xs).length = xs.length
  | _, [] => rfl
  | n, _ :: xs => by rw [enumD, List.length_cons, enumD_len (n + 1) xs, List.length_cons]
theorem enumD_at : ∀ (n : Nat) (xs : List D) (i : Nat), (enumD n xs)[i]? = (xs[i]?).map fun x => .tuple [.int ((n + i : Nat) : Int), x]
  | _, [], i => by simp [enumD]
  | n, x :: xs, 0 => by simp [enumD]
  | n, x :: xs, i + 1 => by
    rw [enumD, List.getElem?_cons_succ, enumD_at (n + 1) xs i, List.getElem?_cons_succ, show n + 1 + i = n + (i + 1) by omega]
theorem walk_enum {K : PySem.W.Frag} {F : Hp} {a : Addr} {vs : List V} {xs : List D} (h : F a = some (.lst vs)) (r : Rps K F vs xs) : Walk K F (Ite K a) (enumD 0 xs) where
  stop := fun i H s hi => ⟨vs, SqL.of (s.old _ _ h trivial), by rw [enumD_len] at hi; rw [r.length]; exact hi⟩
  go := fun i H s hi => by
    rw [enumD_len] at hi
    obtain ⟨v, e, _⟩ := r.get (List.getElem?_eq_getElem hi)
    exact ⟨vs, v, SqL.of (s.old _ _ h trivial), e⟩
  yld := fun i d H x H' s hd y => by
    obtain ⟨T, v, rfl, hT, rfl, e1⟩ := y
    rw [enumD_at] at hd
    obtain ⟨d1, hd1, rfl⟩ := Option.map_eq_some_iff.mp hd
    obtain ⟨v', g1, r1⟩ := r.get hd1
    have f1 := e1 vs (SqL.of (s.old _ _ h trivial))
    rw [g1] at f1; cases f1
    refine .inr ⟨T, _, _, rfl, hT, rfl, rfl, .cons ?_ (.cons r1 .nil), by show 2 ≤ sizeLine; decide⟩
    rw [Nat.zero_add]
    exact .int _
/-! ### a < b <= c < d -/
end
end Fu

set_option maxHeartbeats 4000000
namespace Fu
open PySem PySem.Spec PyProof.Rows L2 RZ
variable [TabsC]
section
variable {X : Cx} {P : Hp → Prop} {pos py p p2 p3 p4 apos : Pos} {x y : Str} {a b c d e e2 e3 o : Expr} {es : List Expr} {ga gb gc gd ge go g2 : M D} {gs : M (List D)} {k : Nat}
/-! ### xs[::c], c is 1 or -1 -/
/-! ### xs.index(x) -/
/-! ### max(a, b, c) -/
end
end Fu

set_option maxHeartbeats 4000000
namespace Fu
open PySem PySem.Spec PyProof.Rows L2 RZ
variable [TabsC]
/-! ### calls that look at lists of one's own: they stay one's own, the answer holds no list -/
section
variable {X : Cx} {pos py p p2 : Pos} {x y : Str} {e : Expr} {es : List Expr} {ge : M D} {gs : M (List D)} {k n : Nat} {ps : List Str}
end
end Fu

set_option maxHeartbeats 4000000
namespace Fu
open PySem PySem.Spec PyProof.Rows L2 RZ
variable [TabsC]
/-! ### looks: an expression that writes nothing sees one's own lists as data; they stay one's own -/
def mapO {α β : Type} (f : α → Option β) : List α → Option (List β)
  | [] => some []
  | x :: xs => (f x).bind fun y => (mapO f xs).map fun ys => y :: ys
def snapR (os : List (Option Cell)) : Nat → R → Option D
  | 0, .dat d => some d
  | 0, _ => none
  | _ + 1, .dat d => some d
  | _ + 1, .scr _ => none
  | _ + 1, .exc _ => none
  | n + 1, .tup rs => (mapO (snapR os n) rs).map .tuple
  | n + 1, .own j => match os[j]? with
    | some (some (.lst ds)) => some (.list ds)
    | some (some (.lR rs)) => (mapO (snapR os n) rs).map .list
    | _ => none
def sealS (os : List (Option Cell)) : Option R → Option R
  | some (.scr ns) => some (.scr ns)
  | some (.exc c) => some (.exc c)
  | some r => (snapR os 8 r).map .dat
  | none => none
def sealAll (S : Sx) : Sx := ⟨S.sl.map (sealS S.os), S.os.map fun _ => none⟩
section
variable {K : PySem.W.Frag} {A : List Addr} {F H H' : Hp} {S : Sx} {σ : L2.St}
end
section
variable {X : Cx} {e : Expr} {g : M D} {gt : M Bool}
end
end Fu

set_option maxHeartbeats 4000000
namespace L2
open PySem PySem.Spec PyProof.Rows
open Fu (XO)
/-! ### an exception that is looked at behind its suite: it is tracked from the suite's end on -/
section
variable {X : Cx} {pins : List (Addr × Obj)} {σ : St} {H : Hp} {s : Shared}
/-- an object that came to stand since the frame began, and that nobody tracks, is tracked -/
theorem adopt {a : Addr} {cls : Value} {o : Obj} {fs : Array Value} (I : Inv X pins σ H s) (na : H a = none) (ha : s.heap.get? a = some o) (hz : Zc cls none o) (hf : o.data = .fields fs) (h0 : X.s_0.heap.get? a = none) (nL : a ≠ X.env.locals)
    (hp : ∀ p ∈ X.pn ++ pins, p.1 ≠ a) : Inv X pins σ (upd H a (XO cls a)) s := by
  have ne : ∀ b u, H b = some u → b ≠ a := fun b u e z => by rw [z, na] at e; cases e
  have ne0 : ∀ b u, X.s_0.heap.get? b = some u → b ≠ a := fun b u e z => by rw [z, h0] at e; cases e
  have nc : ∀ x c, X.env.cells.lookup x = some c → c ≠ a := fun x c e z => by
    obtain ⟨v, o', ho', hd'⟩ := I.cell x c e
    rw [z, ha] at ho'; cases ho'
    rw [hf] at hd'; cases hd'
  refine ⟨I.ok, I.os, I.bare, ⟨I.base.keep, I.base.slot, fun b u e n hx => ?_, I.base.there, fun b xs e => ?_, fun b u xs e => ?_, fun b ps e => ?_⟩, I.loc, I.cell, ?_, fun x c e => ?_, fun p hm => ?_, fun b u e => ?_, I.len⟩
  · rw [upd_ne (ne0 b u e)]; exact I.base.free b u e n hx
  · have := I.base.tups b xs e
    rw [upd_ne (ne b _ this)]; exact this
  · have := I.base.frzs b u xs e
    rw [upd_ne (ne b _ this)]; exact this
  · obtain ⟨more, q⟩ := I.base.tbls b ps e
    exact ⟨more, by rw [upd_ne (ne b _ q)]; exact q⟩
  · rw [upd_ne (Ne.symm nL)]; exact I.free
  · rw [upd_ne (nc x c e)]; exact I.freeC x c e
  · obtain ⟨k1, k2, k3, k4, k5⟩ := I.pin p hm
    exact ⟨k1, by rw [upd_ne (hp p hm)]; exact k2, k3, k4, k5⟩
  · by_cases hb : b = a
    · subst hb
      rw [upd_same] at e
      cases e
      exact ⟨⟨o, fs, ha, hz, hf⟩, ⟨o, ha⟩, fun _ _ ⟨o', f', q, r⟩ k => ⟨o', f', k o' q, r⟩⟩
    · rw [upd_ne hb] at e
      exact (I.hok b u e).stay (fun _ _ _ q => q) (fun c q => by rw [upd_ne (ne c _ q)]; exact q) (fun c xs q => by rw [upd_ne (ne c _ q)]; exact q)
end
/-- what 'except x as n: ..' wishes, the exception tracked behind the suite (slot i is n's) -/
def wKept (K : PySem.W.Frag) (c : Value) (i : Nat) (ts : Addr → Value → TS) (Wout : WX) (D : Ends) : WX := fun cls d σ H =>
  ∃ b, PySem.W.exmOne K cls c = some b ∧ (b = true → d = none ∧ ∀ a, H a = none → ts a cls ⟨fun σ1 H1 => D.nx (σ1.set i none) (upd H1 a (XO cls a)), fun _ _ => False, fun _ _ => False, fun _ _ => False⟩ (σ.set i (some (.ref a))) H) ∧ (b = false → Wout cls d σ H)
section
variable {X : Cx} {x n : Str} {c : Value} {i : Nat} {body suite : List Stmt} {b0 : Stmt} {np p1 p2 : Pos} {tb : WX → TS} {ts : Addr → Value → TS} {Wout : WX}
theorem ps_try_kept (hex : X.ex = []) (hs : X.stack = X.env :: X.outer) (hf : X.env.frame = some X.env.locals) (hN : X.N.Nodup) (hi : X.N[i]? = some n) (hln : X.env.kindOf n = some .local) (hc : Names X x c) (tk : Takes X Wout)
    (hb : ∀ (W : WX) (pn : List (Addr × Obj)) (xe : Value → Shared → Prop), Takes (X.tr pn xe) W → PassesOwn (model X.prog X.w) X.A X.env xe → PSs (X.tr pn xe) body (tb W))
    (hsu : ∀ (a : Addr) (oe : Obj) (cls : Value) (pn : List (Addr × Obj)), PSs (X.suite a ((a, oe) :: pn)) (b0 :: suite) (ts a cls)) :
    PS X (.Try body [.ExceptHandler (some (.Name x np)) (some n) (b0 :: suite) p2] [] [] p1) (fun D σ H => tb (wKept X.K c i ts Wout D) D σ H) := by
  refine ⟨fun pins s σ H D I h => ?_⟩
  have ok := I.ok
  have hfr := ok.frames
  rw [hs] at hfr
  have hl0 : Loc X.env.scope n := .inl hln
  refine wpAny_Try_except ?_
  refine wpAny_mono (Q := fun f s1 => SP (X.tr (X.pn ++ pins) (fun e s1 => wpAny (model X.prog X.w) X.A (noteFrame e X.env) (fun _ s2 => wpAny (model X.prog X.w) X.A (setFlight e none) (fun _ s3 => wpAny (model X.prog X.w) X.A (handleBy e X.env [.ExceptHandler (some (.Name x np)) (some n) (b0 :: suite) p2]) (SP X pins D) X.xe s3) X.xe s2) X.xe s1)) [] D f s1)
    ((hb (wKept X.K c i ts Wout D) (X.pn ++ pins) _ (fun u s1 hx => ?_) PassesOwn.looking).run [] s σ H D (I.toTry _) h) (fun f s1 hsp => ?_) (fun e s1 he => he)
  · obtain ⟨a, B, sI, ps, σ2, H2, cls, d, rfl, J0, nb, up, sky, na, os, ag, b, hb1, hyes, hno⟩ := hx
    have J : Inv X pins σ2 H2 sI := J0.ofTry ok
    have sk : Sky B (X.env :: X.outer) a (Zc cls d) X.env.locals s1.heap := by rw [← hs]; exact sky
    show wpAny (model X.prog X.w) X.A (noteFrame (.ref a) X.env) _ _ _
    refine Sky.land Zc.steady hfr hf sk fun h3 fl3 up3 => ?_
    have J3 : Inv X pins σ2 H2 { s1 with heap := h3 } := J.landed nb fl3.1 (up.trans up3) os ag
    obtain ⟨o3, f3, e3, z3, d3⟩ := fl3.there
    have apart : a ∉ frs (X.env :: X.outer) := fun hm => by
      obtain ⟨_, o', e', hnf⟩ := fl3.2.2.1.mem hm
      rw [e3] at e'; cases e'
      exact hnf _ d3
    have nL : a ≠ X.env.locals := fun z => apart (List.mem_filterMap.mpr ⟨X.env, List.mem_cons_self, by rw [hf, z]⟩)
    have nF : a ∉ X.fs := fun hm => by
      obtain ⟨w, hw, q⟩ := List.mem_filterMap.mp hm
      exact apart (List.mem_filterMap.mpr ⟨w, List.mem_cons_of_mem _ hw, q⟩)
    -- nothing stood at a before the exception
    have nI : sI.heap.get? a = none := by
      cases q : sI.heap.get? a with
      | none => rfl
      | some o =>
        have := nb a o q (by rw [hs]; exact apart)
        rw [fl3.2.1] at this; cases this
    have n0 : X.s_0.heap.get? a = none := by
      cases q : X.s_0.heap.get? a with
      | none => rfl
      | some o =>
        obtain ⟨o', q'⟩ := J.base.there a o q (by rw [hex]; simp)
        rw [nI] at q'; cases q'
    have nq : ∀ p ∈ X.pn ++ pins, p.1 ≠ a := fun p hp z => by
      have := (J.pin p hp).1
      rw [z, nI] at this; cases this
    have K3 := J3.suite e3 d3 na nL nF
    have ty : PySem.W.Looks (model X.prog X.w) h3 (typeOf (.ref a)) cls := fun A Q E t keep q => wpAny_typeOf_ref (keep _ _ e3) (by rw [z3.1]; exact q)
    have asks := PySem.W.exm_one (M := model X.prog X.w) J3.kIn ty hb1
    refine wpAny_handleBy_cons (codeAny_handlers_test ?_) (fun q => by cases q)
    have named : ∀ {R : Value → Shared → Prop} {T : Value → Shared → Prop}, R c { s1 with heap := h3 } → wpAny (model X.prog X.w) (X.A.mark (some (.ref a))) (eval (.Name x np) X.env) R T { s1 with heap := h3 } := fun {R T} r => by
      obtain ⟨g1, g2, g3 | ⟨g3, g4, g5⟩⟩ := hc
      · exact ld_glob (X := X.suite a ((a, o3) :: (X.pn ++ pins))) K3 g1 g3 r g2
      · exact ld_blt (X := X.suite a ((a, o3) :: (X.pn ++ pins))) K3 g1 g3 g4 r g5 g2
    refine named (asks.here ?_)
    cases b with
    | true =>
      obtain ⟨rfl, wish⟩ := hyes rfl
      refine codeAny_handlers_suite_as ?_
      refine HandSPX.lands_againZ fl3 fun h4 fl4 up4 => ?_
      have J4 : Inv X pins σ2 H2 { s1 with heap := h4 } := J.landed nb fl4.1 ((up.trans up3).trans up4) os ag
      obtain ⟨o4, f4, e4, z4, d4⟩ := fl4.there
      have K4 := J4.suite e4 d4 na nL nF
      refine store_ok (X := X.suite a ((a, o4) :: (X.pn ++ pins))) (v := .ref a) K4 hN hi hl0 rfl (fun s5 K5 => ?_) (.inr hln)
      refine wpAny_mono ((hsu a o4 cls (X.pn ++ pins)).run [] s5 _ H2 _ K5 (wish a na)) (fun f s6 hsp => ?_) (fun _ _ z => z.elim)
      cases f with
      | next =>
        obtain ⟨σ6, H6, K6, q6⟩ := hsp
        obtain ⟨k1, k2, _⟩ := K6.pin (a, o4) (List.mem_append_left _ List.mem_cons_self)
        have J6 := adopt (K6.unsuite ok) k2 k1 z4 d4 n0 nL nq
        exact gone_ok J6 hN hi hln fun s7 J7 => ⟨_, _, J7, q6⟩
      | brk =>
        obtain ⟨_, _, _, q6⟩ := hsp
        exact q6.elim
      | cont =>
        obtain ⟨_, _, _, q6⟩ := hsp
        exact q6.elim
      | ret u =>
        obtain ⟨_, _, _, _, _, q6⟩ := hsp
        exact q6.elim
    | false =>
      show wpAny _ X.A (handleBy (.ref a) X.env []) _ _ _
      refine wpAny_handleBy_nil ?_
      obtain ⟨g1, g2, g3, oe, vs, T, oT, ts', he, hz, hd, h1, hr⟩ := id fl3
      unfold PySem.passOn
      refine wpAny_bind (wpAny_field he hd h1 ?_)
      rw [if_neg (by simp)]
      have fin : wpAny (model X.prog X.w) X.A (setFlight (.ref a) X.env.frame) (fun _ t => wpAny (model X.prog X.w) X.A (throw (.ref a) : Sem Flow) (SP X pins D) X.xe t) X.xe { s1 with heap := h3 } := by
        rw [hf]
        refine HandSPX.setFlight_upZ fl3 fun h4 hh4 up4 => wpAny_throw (tk _ _ ?_)
        exact ⟨a, B, sI, pins, σ2, H2, cls, d, rfl, J, nb, (up.trans up3).trans up4, .inr (.inr (by rw [hs]; exact hh4)), na, os, ag, hno rfl⟩
      first
        | exact wpAny_bind (wpAny_pure (wpAny_bind fin))
        | exact wpAny_bind fin
  · cases f with
    | next =>
      obtain ⟨σ2, H2, J2, q⟩ := hsp
      exact wpAny_execs_nil ⟨σ2, H2, J2.ofTry ok, q⟩
    | brk =>
      obtain ⟨σ2, H2, J2, q⟩ := hsp
      exact ⟨σ2, H2, J2.ofTry ok, q⟩
    | cont =>
      obtain ⟨σ2, H2, J2, q⟩ := hsp
      exact ⟨σ2, H2, J2.ofTry ok, q⟩
    | ret u =>
      obtain ⟨v, σ2, H2, J2, r, q⟩ := hsp
      exact ⟨v, σ2, H2, J2.ofTry ok, r, q⟩
end
/-- isinstance(e, c), e an exception that is tracked -/
def rIsK (K : PySem.W.Frag) (D : Addr) : List V → Hp → VK → Prop := fun xs H Q => ∃ (a : Addr) (c : V) (cv : Value) (b : Bool), xs = [.ref a, c] ∧ H a = some (XO (.ref D) a) ∧ (∀ u, RelV c u → u = cv) ∧ PySem.W.kitOne K (.ref D) cv = some b ∧ Q (.bl b) H
theorem call_isK {X : Cx} {D : Addr} (C : ExcC X.K D) : CallR X (.builtin "isinstance") (rIsK X.K D) := by
  intro pins s σ H xs us Q I r h
  obtain ⟨a, c, cv, b, rfl, hX, hcv, e, q⟩ := h
  cases r with
  | cons rx rr =>
    cases rr with
    | cons rt rr =>
      cases rr
      cases rx
      obtain rfl := hcv _ rt
      obtain ⟨o, fs, g1, ⟨g2, g3⟩, g4⟩ := (show ObjOk X.prog X.w H s.heap a (XO (.ref D) a) from I.hok a _ hX).1
      have J : PySem.W.InstAt s.heap a o D none := by
        obtain ⟨oc, od, oda, osl⟩ := o
        dsimp only at g2 g3 g4
        subst g2 g3 g4
        exact ⟨g1, rfl, rfl, trivial⟩
      exact PySem.W.kia_one (PySem.W.handS_kitx_exc C.hg C.hk C.hs C.hd C.ha C.hn C.ht C.hm) I.kIn J e (fun z => nomatch z) fun tk => ⟨.bl b, H, I.kept (t' := tk) fun _ _ z => z, rfl, q⟩
end L2

set_option maxHeartbeats 4000000
namespace L2
open PySem PySem.Spec PyProof.Rows
open Fu (Sub lpins forget remember lost_of mixH loose_there mix_held mix_free)
section
variable {X : Cx} {k : Nat} {f : Addr} {fd : FuncData} {ps : List Str} {sp : Sp} {W : WX} {x : Str} {p pos : Pos} {e : Expr} {es : List Expr} {t : TA}
/-- a call that may raise, over a part of the heap -/
theorem run_fnFX {pins : List (Addr × Obj)} {σ : L2.St} {H G : Hp} {s : Shared} {Q : VK} {us : List Value} {vs : List V} (F : FnOk X.prog X.w X.K X.mg X.base (CX X.prog X.w) k f fd ps sp) (hr : Room k X.A) (hb : Binds X.K fd ps []) (tk : Takes X W)
    (I : Inv X pins σ H s) (r : Vals vs us) (S : Sub G H) (h : sp vs G (fun v G' => (∀ b xs, G b = some (.tup xs) → G' b = some (.tup xs)) ∧ ((∀ b o, H b = some o → G b = none → G' b = none) → Q v (mixH G H G')))
      (fun cls d G' => (∀ b xs, G b = some (.tup xs) → G' b = some (.tup xs)) ∧ ((∀ b o, H b = some o → G b = none → G' b = none) → W cls d σ (mixH G H G')))) :
    wpAny (model X.prog X.w) X.A (call (.ref f) us) (EP X pins σ Q) X.xe s := by
  have I0 := forget I S
  have I1 := I0.toTry X.xe
  have hl : us.length = ps.length := by rw [← r.length]; exact F.len _ _ _ _ h
  have b := hb s us I.kIn (by rw [List.append_nil]; exact hl)
  rw [List.append_nil] at b
  refine wpAny_call (codeAny_mono (F.run X.A X.stack s G ⟨us, []⟩ us vs _ _ hr I0.env0 b r h) fun res s' hq => ?_)
  cases res with
  | ok fl =>
    cases fl with
    | ret u =>
      obtain ⟨v, G', I', rv, ht, q⟩ := I0.after hq
      exact ⟨v, mixH G H G', remember I S I' ht, rv, q (lost_of I S I')⟩
    | next => exact hq.elim
    | brk => exact hq.elim
    | cont => exact hq.elim
  | error er =>
    obtain ⟨a0, B0, H0', cls0, d0, e0, fl0, hok0, ub0, na0, _⟩ := id hq
    obtain ⟨a, B, sI, pns, σ', G', cls, d, ea, J, nb, up, sky, na, os, ag, rfl, ht, q⟩ := XE.of_call (X := X.tr (X.pn ++ (pins ++ lpins H G s.heap)) X.xe) (W := fun cls d σ' G' => σ' = σ ∧ (∀ b xs, G b = some (.tup xs) → G' b = some (.tup xs)) ∧ ((∀ b o, H b = some o → G b = none → G' b = none) → W cls d σ (mixH G H G'))) I1 (fun cls d H' h => ⟨rfl, h⟩) hq
    have J' := J.ofTry I.ok
    have aa : a0 = a := by rw [e0] at ea; cases ea; rfl
    subst aa
    refine tk _ _ ⟨a0, B, sI, pins, σ', mixH G H G', cls, d, ea, remember I S J' ht, nb, up, sky, ?_, os, ag, q (lost_of I S J')⟩
    cases q1 : G a0 with
    | some u => rw [mix_held q1]; exact na
    | none =>
      cases q2 : H a0 with
      | none => rw [mix_free q2]; exact na
      | some u =>
        obtain ⟨ob, hob⟩ : ∃ ob, s.heap.get? a0 = some ob := loose_there (I.hok a0 u q2) (S.loose a0 u q2 q1)
        have nf : a0 ∉ frs X.stack := fun hm => by
          have := I.env0.frf a0 hm
          rw [q2] at this; cases this
        have := ub0.keep a0 ob hob q1 nf
        rw [fl0.2.1] at this; cases this
def tCallX (sp : Sp) (W : WX) (t : TA) : TE := fun σ H Q => t σ H fun vs H1 => ∃ G, Sub G H1 ∧ sp vs G (fun v G' => (∀ b xs, G b = some (.tup xs) → G' b = some (.tup xs)) ∧ ((∀ b o, H1 b = some o → G b = none → G' b = none) → Q v (mixH G H1 G')))
  (fun cls d G' => (∀ b xs, G b = some (.tup xs) → G' b = some (.tup xs)) ∧ ((∀ b o, H1 b = some o → G b = none → G' b = none) → W cls d σ (mixH G H1 G')))
theorem pe_callX (F : FnOk X.prog X.w X.K X.mg X.base (CX X.prog X.w) k f fd ps sp) (hr : Room k X.A) (hg : Gl X x) (hm : X.mg x = some (.ref f)) (hk : PySem.W.keepIn X.K (.ref f) = true) (hb : Binds X.K fd ps []) (tk : Takes X W)
    (ha : PA X (e :: es) t) (hdb : (x == ("__debug__" : Str)) = false := by decide) (he : starEach (e :: es) X.env = (false, eval e X.env) :: starEach es X.env := by rfl) (hpl : (backTo pos (starEach es X.env)).any (·.1) = false := by rfl) :
    PE X (.Call (.Name x p) (e :: es) [] pos) (tCallX sp W t) := by
  refine ⟨fun pins s σ H Q I h => ?_⟩
  refine wpAny_Call_Name_kw (ld_glob I hg hm ?_ hdb)
  refine PySem.W.callWith_K (h₀ := X.base) I.ok.mod.kin hk (thn (ha.run pos pins s σ H _ I h) fun us s1 ⟨vs, H1, I1, r, G, S, q⟩ => ⟨I1.kIn, ?_⟩) he hpl
  exact run_fnFX F hr hb tk I1 r S q
end
end L2

set_option maxHeartbeats 4000000
namespace Fu
open PySem PySem.Spec PyProof.Rows L2 RZ
variable [TabsC]
/-! ### what may raise: mirrored with its refusals -/
def ClsD (K : PySem.W.Frag) (c : Str) (D : Addr) : Prop := PySem.W.nsIn K mainGlobals c = some (some (.ref D))
/-- a def that may raise: its value by data, or the name of the class it raises -/
def spZ (K : PySem.W.Frag) (n : Nat) (m : List D → Option (Except Str D)) : Sp := fun vs H Q E => ∃ ds r, ds.length = n ∧ Rps K H vs ds ∧ m ds = some r ∧ LamX.Tabs TabsC.T H ∧ (∀ z, r = .ok z → ∀ H' v, SameT H H' → Rp K H' v z → Q v H') ∧ (∀ c, r = .error c → ∀ H' D, SameT H H' → ClsD K c D → E (.ref D) none H')
theorem spZ_len {K : PySem.W.Frag} {n : Nat} {m : List D → Option (Except Str D)} {ps : List Str} (h : ps.length = n) : ∀ vs H Q E, spZ K n m vs H Q E → vs.length = ps.length := by
  intro vs H Q E ⟨ds, z, e, r, _⟩
  rw [r.length, e, h]
def HasZ (P : Program) (w : World) (K : PySem.W.Frag) (mg : Str → Option Value) (base : Heap) (x : Str) (k : Nat) (ps : List Str) (sp : Sp) : Prop :=
  ∃ f fd, mg x = some (.ref f) ∧ PySem.W.keepIn K (.ref f) = true ∧ L2.Binds K fd ps [] ∧ FnOk P w K mg base (L2.CX P w) k f fd ps sp
abbrev Zr (α : Type) := Except (Str × Sx) α
def ZErr (K : PySem.W.Frag) (W : WX) (A : List Addr) (F : Hp) (e : Str × Sx) : Prop := ∀ A' F' H' σ' D, A <+: A' → SameT F F' → Ok K A' F' H' e.2 σ' → ClsD K e.1 D → W (.ref D) none σ' H'
def RdEZ (K : PySem.W.Frag) (W : WX) (t : TE) (g : Sx → Option (Zr (D × Sx))) : Prop := ∀ A F H S σ r Q, Ok K A F H S σ → g S = some r →
  (∀ d S', r = .ok (d, S') → ∀ A' F' H' v, A <+: A' → SameT F F' → Ok K A' F' H' S' σ → Rp K F' v d → Q v H') → (∀ e, r = .error e → ZErr K W A F e) → t σ H Q
structure GEZ (X : Cx) (W : WX) (e : Expr) (g : Sx → Option (Zr (D × Sx))) : Prop where
  ex : ∃ t, PE X e t ∧ RdEZ X.K W t g
def RdAZ (K : PySem.W.Frag) (W : WX) (t : TA) (g : Sx → Option (Zr (List D × Sx))) : Prop := ∀ A F H S σ r Q, Ok K A F H S σ → g S = some r →
  (∀ d S', r = .ok (d, S') → ∀ A' F' H' v, A <+: A' → SameT F F' → Ok K A' F' H' S' σ → Rps K F' v d → Q v H') → (∀ e, r = .error e → ZErr K W A F e) → t σ H Q
structure GAZ (X : Cx) (W : WX) (es : List Expr) (g : Sx → Option (Zr (List D × Sx))) : Prop where
  ex : ∃ t, PA X es t ∧ RdAZ X.K W t g
theorem ZErr.mono {K : PySem.W.Frag} {W : WX} {A A1 : List Addr} {F F1 : Hp} {e : Str × Sx} (p : A <+: A1) (s : SameT F F1) (h : ZErr K W A F e) : ZErr K W A1 F1 e := fun A' F' H' σ' D p' s' k c => h A' F' H' σ' D (p.trans p') (s.trans s') k c
def zCall (n : Nat) (m : List D → Option (Except Str D)) (g : M (List D)) : Sx → Option (Zr (D × Sx)) := fun S => (g S).bind fun p => if p.1.length = n then (m p.1).map fun r => match r with
  | .ok z => .ok (z, p.2)
  | .error c => .error (c, p.2) else none
section
variable {X : Cx} {W : WX} {pos p p2 : Pos} {x : Str} {e : Expr} {es : List Expr} {gs : M (List D)} {k n : Nat} {ps : List Str}
theorem ez_call {m : List D → Option (Except Str D)} (h : HasZ X.prog X.w X.K X.mg X.base x k ps (spZ X.K n m)) (hr : Room k X.A) (tk : Takes X W) (ha : GA X (e :: es) gs) (hg : Gl X x := by rfl) (hdb : (x == ("__debug__" : Str)) = false := by decide)
    (he : starEach (e :: es) X.env = (false, eval e X.env) :: starEach es X.env := by rfl) (hpl : (backTo pos (starEach es X.env)).any (·.1) = false := by rfl) : GEZ X W (.Call (.Name x p) (e :: es) [] pos) (zCall n m gs) := by
  obtain ⟨fa, fd, hm, kp, b, F⟩ := h
  obtain ⟨t, pa, ra⟩ := ha.ex
  refine ⟨_, pe_callX F hr hg hm kp b tk pa hdb he hpl, fun A F H S σ r Q k h post err => ?_⟩
  obtain ⟨⟨ds, S1⟩, h1, h⟩ := bind_inv h
  simp only at h
  split at h
  case isFalse => cases h
  rename_i hn
  obtain ⟨r0, h2, rfl⟩ := Option.map_eq_some_iff.mp h
  refine ra A F H S σ ds _ _ k h1 fun A1 F1 H1 vs p1 s1 k1 r1 => ⟨F1, k1.sub, ds, r0, hn, r1, h2, k1.tab, fun z ez G' v sm rv => ⟨fun b xs q => sm.old b _ q trivial, fun lost => ?_⟩, fun c ec G' D sm cd => ⟨fun b xs q => sm.old b _ q trivial, fun lost => ?_⟩⟩
  · subst ez
    exact post _ _ rfl A1 G' _ v p1 (s1.trans sm) (k1.mix sm lost) rv
  · subst ec
    exact err _ rfl A1 G' _ σ D p1 (s1.trans sm) (k1.mix sm lost) cd
/-- one value handed in, whose making may raise -/
def zOne (g : Sx → Option (Zr (D × Sx))) : Sx → Option (Zr (List D × Sx)) := fun S => (g S).map fun r => match r with
  | .ok q => .ok ([q.1], q.2)
  | .error e => .error e
theorem az_one {g : Sx → Option (Zr (D × Sx))} (h : GEZ X W e g) (he : starEach [e] X.env = (false, eval e X.env) :: starEach [] X.env := by rfl) : GAZ X W [e] (zOne g) := by
  obtain ⟨t, pe, re⟩ := h.ex
  refine ⟨_, pa_cons pe pa_nil he, fun A F H S σ r Q k h post err => ?_⟩
  obtain ⟨r0, h1, rfl⟩ := Option.map_eq_some_iff.mp h
  refine re A F H S σ r0 _ k h1 (fun d S' e0 A' F' H' v p s k' rv => ?_) (fun e e0 => ?_)
  · subst e0
    exact post _ _ rfl A' F' H' [v] p s k' (.cons rv .nil)
  · subst e0
    exact err _ rfl
def zCallF (n : Nat) (f : List D → Option D) (g : Sx → Option (Zr (List D × Sx))) : Sx → Option (Zr (D × Sx)) := fun S => (g S).bind fun r => match r with
  | .ok q => if q.1.length = n then (f q.1).map fun z => .ok (z, q.2) else none
  | .error e => some (.error e)
theorem ez_callF {f : List D → Option D} {ga : Sx → Option (Zr (List D × Sx))} (h : Has X.prog X.w X.K X.mg X.base x k ps (spF X.K n f)) (hr : Room k X.A) (ha : GAZ X W (e :: es) ga) (hg : Gl X x := by rfl) (hdb : (x == ("__debug__" : Str)) = false := by decide)
    (he : starEach (e :: es) X.env = (false, eval e X.env) :: starEach es X.env := by rfl) (hpl : (backTo pos (starEach es X.env)).any (·.1) = false := by rfl) : GEZ X W (.Call (.Name x p) (e :: es) [] pos) (zCallF n f ga) := by
  obtain ⟨fa, fd, hm, kp, b, F⟩ := h
  obtain ⟨t, pa, ra⟩ := ha.ex
  refine ⟨_, pe_callF F hr hg hm kp b .nil pass0 pa hdb he hpl, fun A F H S σ r Q k h post err => ?_⟩
  obtain ⟨r0, h1, h⟩ := bind_inv h
  refine ra A F H S σ r0 _ k h1 (fun ds S1 e0 A1 F1 H1 vs p1 s1 k1 r1 => ?_) (fun e e0 => ?_)
  · subst e0
    simp only at h
    split at h
    case isFalse => cases h
    rename_i hn
    obtain ⟨z, h2, rfl⟩ := Option.map_eq_some_iff.mp h
    exact ⟨F1, k1.sub, ds, _, hn, by rw [List.append_nil]; exact r1, h2, k1.tab, fun G' v sm rv => ⟨fun b xs q => sm.old b _ q trivial, fun lost => post _ _ rfl A1 G' _ v p1 (s1.trans sm) (k1.mix sm lost) rv⟩⟩
  · subst e0
    cases h
    exact err _ rfl
end
/-! ### statements that may raise -/
def RdSZ (K : PySem.W.Frag) (P : Hp → Prop) (W : WX) (t : TS) (g : Sx → Option (Zr Out)) : Prop := ∀ B A0 A F H S σ r (E : Ends), P B → SameT B F → A0 <+: A → Ok K A F H S σ → g S = some r → (∀ o, r = .ok o → OutP K B A0 o E) → (∀ e, r = .error e → ZErr K W A0 B e) → t E σ H
structure GZ (X : Cx) (P : Hp → Prop) (W : WX) (st : Stmt) (g : Sx → Option (Zr Out)) : Prop where
  ex : ∃ t, PS X st t ∧ RdSZ X.K P W t g
structure GZs (X : Cx) (P : Hp → Prop) (W : WX) (st : List Stmt) (g : Sx → Option (Zr Out)) : Prop where
  ex : ∃ t, PSs X st t ∧ RdSZ X.K P W t g
def zS (g : Sx → Option Out) : Sx → Option (Zr Out) := fun S => (g S).map .ok
def zSeq (g h : Sx → Option (Zr Out)) : Sx → Option (Zr Out) := fun S => (g S).bind fun r => match r with
  | .ok (.nx S1) => h S1
  | r => some r
def zIf (t : M Bool) (g h : Sx → Option (Zr Out)) : Sx → Option (Zr Out) := fun S => (t S).bind fun p => if p.1 = true then g p.2 else h p.2
def zRaise (c : Str) : Sx → Option (Zr Out) := fun S => some (.error (c, S))
def zBe (g : Sx → Option (Zr (D × Sx))) (f : D → Sx → Option Out) : Sx → Option (Zr Out) := fun S => (g S).bind fun r => match r with
  | .ok q => (f q.1 q.2).map .ok
  | .error e => some (.error e)
def zDrop (g : Sx → Option (Zr (D × Sx))) := zBe g fun _ S => some (.nx S)
def zRet (g : Sx → Option (Zr (D × Sx))) := zBe g fun d S => some (.rt d S)
def zSet (i : Nat) (g : Sx → Option (Zr (D × Sx))) := zBe g fun d S => some (.nx ⟨S.sl.set i (some (.dat d)), S.os⟩)
/-- the facts of a class that is raised -/
def ExcT (K : PySem.W.Frag) (mg : Str → Option Value) (c : Str) : Prop := ∃ C, ClsD K c C ∧ mg c = some (.ref C) ∧ PySem.W.excIn K C [.type "ValueError", .type "Exception", .type "BaseException", .type "object"] "ValueError.__new__" = true ∧ PySem.W.keepIn K (.ref C) = true ∧ PySem.W.subIn K (.ref C) (.type "BaseException") = some true ∧ PySem.W.typeIn K (.ref C) = some (.type "type")
section
variable {X : Cx} {P : Hp → Prop} {W : WX} {st : Stmt} {sts : List Stmt} {g h : Sx → Option (Zr Out)} {e : Expr} {ge : Sx → Option (Zr (D × Sx))} {pos : Pos}
theorem z_of {g : Sx → Option Out} (h : GS X P st g) : GZ X P W st (zS g) := by
  obtain ⟨t, p, r⟩ := h.ex
  refine ⟨t, p, fun B A0 A F H S σ r0 E hP s p k e post err => ?_⟩
  obtain ⟨o, h1, rfl⟩ := Option.map_eq_some_iff.mp e
  exact r B A0 A F H S σ o E hP s p k h1 (post o rfl)
theorem zs_of {g : Sx → Option Out} (h : GSs X P sts g) : GZs X P W sts (zS g) := by
  obtain ⟨t, p, r⟩ := h.ex
  refine ⟨t, p, fun B A0 A F H S σ r0 E hP s p k e post err => ?_⟩
  obtain ⟨o, h1, rfl⟩ := Option.map_eq_some_iff.mp e
  exact r B A0 A F H S σ o E hP s p k h1 (post o rfl)
theorem zs_one (h1 : GZ X P W st g) : GZs X P W [st] g := let ⟨_, p1, r1⟩ := h1.ex; ⟨_, pss_one p1, r1⟩
theorem zs_cons (h1 : GZ X P W st g) (h2 : GZs X P W sts h) : GZs X P W (st :: sts) (zSeq g h) := by
  obtain ⟨t, p1, r1⟩ := h1.ex
  obtain ⟨u, p2, r2⟩ := h2.ex
  refine ⟨_, pss_cons p1 p2, fun B A0 A F H S σ r E hP s p k e post err => ?_⟩
  obtain ⟨r0, e1, e⟩ := bind_inv e
  refine r1 B A0 A F H S σ r0 _ hP s p k e1 (fun o e0 => ?_) (fun er e0 => ?_)
  · subst e0
    cases o with
    | nx S1 => exact fun A1 F1 H1 σ1 s1 p1 k1 => r2 B A0 A1 F1 H1 S1 σ1 r E hP s1 p1 k1 e post err
    | rt d S1 => cases e; exact post _ rfl
    | bk S1 => cases e; exact post _ rfl
    | ct S1 => cases e; exact post _ rfl
    | ro j S1 => cases e; exact post _ rfl
    | rs r S1 => cases e; exact post _ rfl
  · subst e0
    cases e
    exact err _ rfl
theorem z_if {c : Expr} {a b : List Stmt} {gt : M Bool} (hc : GT X c gt) (ha : GZs X P W a g) (hb : GZs X P W b h) : GZ X P W (.If c a b pos) (zIf gt g h) := by
  obtain ⟨t, pc, rc⟩ := hc.ex
  obtain ⟨_, pa, ra⟩ := ha.ex
  obtain ⟨_, pb, rb⟩ := hb.ex
  refine ⟨_, ps_if pc pa pb, fun B A0 A F H S σ r E hP s p k e post err => ?_⟩
  obtain ⟨⟨x, S1⟩, e1, e⟩ := bind_inv e
  refine rc A F H S σ x S1 _ k e1 fun A1 F1 H1 p1 s1 k1 => ?_
  cases x with
  | true => exact ra B A0 A1 F1 H1 S1 σ r E hP (s.trans s1) (p.trans p1) k1 e post err
  | false => exact rb B A0 A1 F1 H1 S1 σ r E hP (s.trans s1) (p.trans p1) k1 e post err
theorem z_expr (he : GEZ X W e ge) (hs : swapsWith e none pos.line X.env = pure false := by rfl) : GZ X P W (.Expr e pos) (zDrop ge) := by
  obtain ⟨t, p1, r1⟩ := he.ex
  refine ⟨_, ps_expr p1 hs, fun B A0 A F H S σ r E hP s p k e post err => ?_⟩
  obtain ⟨r0, e1, e⟩ := bind_inv e
  refine r1 A F H S σ r0 _ k e1 (fun d S1 e0 A1 F1 H1 v p1 s1 k1 _ => ?_) (fun er e0 => ?_)
  · subst e0; cases e
    exact post _ rfl A1 F1 H1 σ (s.trans s1) (p.trans p1) k1
  · subst e0; cases e
    exact fun A' F' H' σ' D p' s' k' c => err _ rfl A' F' H' σ' D (p.trans p') (s.trans s') k' c
theorem z_ret (he : GEZ X W e ge) : GZ X P W (.Return (some e) pos) (zRet ge) := by
  obtain ⟨t, p1, r1⟩ := he.ex
  refine ⟨_, ps_ret p1, fun B A0 A F H S σ r E hP s p k e post err => ?_⟩
  obtain ⟨r0, e1, e⟩ := bind_inv e
  refine r1 A F H S σ r0 _ k e1 (fun d S1 e0 A1 F1 H1 v p1 s1 k1 rv => ?_) (fun er e0 => ?_)
  · subst e0; cases e
    exact post _ rfl A1 F1 H1 σ v (s.trans s1) (p.trans p1) k1 rv
  · subst e0; cases e
    exact fun A' F' H' σ' D p' s' k' c => err _ rfl A' F' H' σ' D (p.trans p') (s.trans s') k' c
theorem z_set {x : Str} {pos' : Pos} (i : Nat) (hN : X.N.Nodup) (he : GEZ X W e ge) (hx : Loc X.env.scope x := by first | exact Or.inl rfl | exact Or.inr rfl) (hi : X.N[i]? = some x := by rfl) (hs : swapsWith e (some (.Name x pos')) pos.line X.env = pure false := by rfl)
    (hf : X.fn x = true ∨ X.env.scope.names.lookup x = some .local := by first | exact .inl rfl | exact .inr rfl | assumption) : GZ X P W (.Assign [.Name x pos'] e pos) (zSet i ge) := by
  obtain ⟨t, p1, r1⟩ := he.ex
  refine ⟨_, ps_set hN hi hx p1 hs hf, fun B A0 A F H S σ r E hP s p k e post err => ?_⟩
  obtain ⟨r0, e1, e⟩ := bind_inv e
  refine r1 A F H S σ r0 _ k e1 (fun d S1 e0 A1 F1 H1 v p1 s1 k1 rv => ?_) (fun er e0 => ?_)
  · subst e0; cases e
    exact post _ rfl A1 F1 H1 _ (s.trans s1) (p.trans p1) (k1.setDat rv)
  · subst e0; cases e
    exact fun A' F' H' σ' D p' s' k' c => err _ rfl A' F' H' σ' D (p.trans p') (s.trans s') k' c
theorem z_raise {c m : Str} {j} {p p2 p3 : Pos} (T : ExcT X.K X.mg c) (tk : Takes X W) (hc : X.calm = true := by rfl) (hg : Gl X c := by rfl) (hdb : (c == ("__debug__" : Str)) = false := by decide) :
    GZ X P W (.Raise (some (.Call (.Name c p) [.Constant (.str m) j p2] [] p3)) none pos) (zRaise c) := by
  obtain ⟨C, cd, hm, hx, hk, hb, ht⟩ := T
  refine ⟨_, ps_raise hc tk (pmk_own PySem.F.excBase_ValueError hx hm hk (raises_own hb ht) hg hdb), fun B A0 A F H S σ r E hP s p k e post err => ?_⟩
  cases e
  exact err _ rfl A F H σ C p s k cd
end
/-! ### a def that may raise -/
def mZ (n : Nat) (g : Sx → Option (Zr Out)) : List D → Option (Except Str D) := fun ds => (g ⟨initS n ds, []⟩).bind fun r => match r with
  | .error e => some (.error e.1)
  | .ok (.nx _) => some (.ok .none)
  | .ok (.rt d _) => some (.ok d)
  | _ => none
section
variable {P : Program} {w : World} {K : PySem.W.Frag} {mg : Str → Option Value} {base : Heap} {x qual : Str} {st : Stmt} {f : Addr} {fd : FuncData} {N ps : List Str} {k n : Nat} {g : Sx → Option (Zr Out)}
abbrev cxZ (P : Program) (w : World) (K : PySem.W.Frag) (mg : Str → Option Value) (base : Heap) (N : List Str) (qual : Str) (st : Stmt) (f : Addr) (cdv : Value) (A : Around) (outer : List Env) (s : Shared) (H : Hp) (E : XK) : Cx := cxOf (L2.CX P w) P w K mg base N qual (defScope st) f cdv A outer s H E
abbrev wZ (E : XK) : WX := fun cls d _ H => E cls d H
theorem fn_z (F : Fun K x qual st f fd) (S : FnScope N ps (defScope st)) (hn : ps.length = n) (hN : n ≤ N.length)
    (body : ∀ (cdv : Value) (A : Around) (outer : List Env) (s : Shared) (H : Hp) (E : XK), Room k (A.deeper (envOfC qual (defScope st) s.heap.objs.size f cdv)) → GZs (cxZ P w K mg base N qual st f cdv A outer s H E) AnyB (wZ E) (defBody st) g) :
    FnOk P w K mg base (L2.CX P w) (k + 1) f fd ps (spZ K n (mZ N.length g)) := by
  refine F.okX S (spZ_len hn) fun cdv A outer s H vs Q E hr h => ?_
  obtain ⟨ds, r0, hd, r, e, tb, post, err⟩ := h
  obtain ⟨t, p, rd⟩ := (body cdv A outer s H E hr).ex
  refine ⟨t, p, ?_⟩
  obtain ⟨o, e1, e⟩ := bind_inv e
  have hl : vs.length ≤ N.length := by rw [r.length, hd]; exact hN
  refine rd H [] [] H H _ (L2.start N vs) o _ trivial (SameT.refl H) (List.prefix_refl _) (start_dat r hl (Sub.refl H) tb) e1 (fun o0 e0 => ?_) (fun er e0 => ?_)
  · subst e0
    cases o0 with
    | nx S => cases e; exact fun A1 F1 H1 σ1 s1 p1 k1 => post _ rfl H1 .non (s1.trans k1.sub.same.t) .non
    | rt d S => cases e; exact fun A1 F1 H1 σ1 v s1 p1 k1 rv => post _ rfl H1 v (s1.trans k1.sub.same.t) (rv.mono k1.sub.same.t _ _)
    | bk S => cases e
    | ct S => cases e
    | rs r S => cases e
    | ro j S => cases e
  · subst e0
    cases e
    exact fun A1 F1 H1 σ1 D p1 s1 k1 cd => err _ rfl H1 D (s1.trans k1.sub.same.t) cd
theorem has_z (D : DefAt K mg x st ps) (S : FnScope N ps (defScope st)) (hn : ps.length = n) (hN : n ≤ N.length)
    (body : ∀ (f : Addr) (cdv : Value) (A : Around) (outer : List Env) (s : Shared) (H : Hp) (E : XK), Room k (A.deeper (envOfC x (defScope st) s.heap.objs.size f cdv)) → Takes (cxZ P w K mg base N x st f cdv A outer s H E) (wZ E) → GZs (cxZ P w K mg base N x st f cdv A outer s H E) AnyB (wZ E) (defBody st) g) : HasZ P w K mg base x (k + 1) ps (spZ K n (mZ N.length g)) :=
  let ⟨f, fd, m, F, b⟩ := D; ⟨f, fd, m, F.kp, b, fn_z F S hn hN fun cdv A outer s H E hr => body f cdv A outer s H E hr (takes_of rfl rfl rfl rfl)⟩
end
end Fu

set_option maxHeartbeats 4000000
namespace L2
open PySem PySem.Spec PyProof.Rows
open Fu (XO)
/-- isinstance(e, c), e an exception that is tracked, of any class -/
def rIsKA (K : PySem.W.Frag) : List V → Hp → VK → Prop := fun xs H Q => ∃ D, ExcC K D ∧ rIsK K D xs H Q
theorem call_isKA {X : Cx} : CallR X (.builtin "isinstance") (rIsKA X.K) := fun pins s σ H xs us Q I r ⟨_, C, h⟩ => call_isK C pins s σ H xs us Q I r h
end L2
namespace Fu
open PySem PySem.Spec PyProof.Rows L2 RZ
variable [TabsC]
/-! ### an exception in a slot -/
/-- what an exception of the class c is, seen by cv -/
def ExcIs (K : PySem.W.Frag) (c : Str) (cv : Value) (b : Bool) : Prop := ∀ D, ClsD K c D → ExcC K D ∧ PySem.W.kitOne K (.ref D) cv = some b
theorem Ok.eslot {K : PySem.W.Frag} {A : List Addr} {F H : Hp} {S : Sx} {σ : L2.St} (k : Ok K A F H S σ) {i : Nat} {c : Str} (h : S.sl[i]? = some (some (.exc c))) : ∃ a D, σ[i]? = some (some (.ref a)) ∧ ClsD K c D ∧ F a = some (XO (.ref D) a) := by
  obtain ⟨v, e, r⟩ := k.rslot i _ h
  cases r with
  | exc h1 h2 => exact ⟨_, _, e, h1, h2⟩
/-- x is None, x data or an exception -/
def gIsN (i : Nat) : M D := fun S => match S.sl[i]? with
  | some (some (.exc _)) => some (.bool false, S)
  | some (some (.dat .none)) => some (.bool true, S)
  | some (some (.dat _)) => some (.bool false, S)
  | _ => none
section
variable {X : Cx} {pos p p2 p3 : Pos} {y x : Str} {k : Nat}
theorem isN_cases {i : Nat} {S S' : Sx} {d : D} (h : gIsN i S = some (d, S')) : S' = S ∧ ((∃ c, S.sl[i]? = some (some (.exc c)) ∧ d = .bool false) ∨ ∃ e, S.sl[i]? = some (some (.dat e)) ∧ ((e = .none ∧ d = .bool true) ∨ ((e = .none → False) ∧ d = .bool false))) := by
  unfold gIsN at h
  cases e : S.sl[i]? with
  | none => rw [e] at h; cases h
  | some r =>
    cases r with
    | none => rw [e] at h; cases h
    | some r =>
      rw [e] at h
      cases r with
      | exc c => cases h; exact ⟨rfl, .inl ⟨_, rfl, rfl⟩⟩
      | dat d =>
        cases d with
        | none => cases h; exact ⟨rfl, .inr ⟨_, rfl, .inl ⟨rfl, rfl⟩⟩⟩
        | _ => cases h; exact ⟨rfl, .inr ⟨_, rfl, .inr ⟨(fun z => nomatch z), rfl⟩⟩⟩
      | own _ => cases h
      | scr _ => cases h
      | tup _ => cases h
theorem rd_isN {K : PySem.W.Frag} (i : Nat) : RdE K (tOp (fun x y H Q => y = V.non ∧ Q (V.bl (decide (x = V.non))) H) (tVar i) (tC .non)) (gIsN i) := by
  intro A F H S σ d S' Q k h post
  obtain ⟨rfl, ⟨c, e, rfl⟩ | ⟨e0, e, ⟨rfl, rfl⟩ | ⟨ne, rfl⟩⟩⟩ := isN_cases h
  · obtain ⟨a, D, e1, _, _⟩ := k.eslot e
    exact ⟨_, e1, rfl, post A F H _ (List.prefix_refl _) (SameT.refl F) k (.bl _)⟩
  · obtain ⟨v, e1, r⟩ := k.slot i _ e
    cases r
    exact ⟨_, e1, rfl, post A F H _ (List.prefix_refl _) (SameT.refl F) k (.bl _)⟩
  · obtain ⟨v, e1, r⟩ := k.slot i _ e
    refine ⟨_, e1, rfl, ?_⟩
    rw [rp_ne_non r ne]
    exact post A F H _ (List.prefix_refl _) (SameT.refl F) k (.bl _)
/-- isinstance(x, C) of an exception -/
def gIsE (i : Nat) (cs : List Str) (b : Str → Bool) : M D := fun S => match S.sl[i]? with
  | some (some (.exc c)) => if c ∈ cs then some (.bool (b c), S) else none
  | _ => none
theorem rd_isE {K : PySem.W.Frag} {i : Nat} {cs : List Str} {b : Str → Bool} {cw : V} {cv : Value} (hr : ∀ u, RelV cw u → u = cv) (hk : ∀ c ∈ cs, ExcIs K c cv (b c)) {t : TA} (ht : ∀ σ H Q v, σ[i]? = some (some v) → Q [v, cw] H → t σ H Q) : RdE K (tCB (rIsKA K) t) (gIsE i cs b) := by
  intro A F H S σ d S' Q k h post
  unfold gIsE at h
  split at h
  · rename_i c e
    split at h
    · rename_i hc
      cases h
      obtain ⟨a, D, e1, cd, hF⟩ := k.eslot e
      obtain ⟨C, ko⟩ := hk c hc D cd
      refine ht σ H _ (.ref a) e1 ⟨D, C, a, cw, cv, _, rfl, k.sub.same _ _ hF, hr, ko, post A F H _ (List.prefix_refl _) (SameT.refl F) k (.bl _)⟩
    · cases h
  · cases h
theorem e_isE (i : Nat) (cs : List Str) (b : Str → Bool) {C : Addr} (hm : X.mg "isinstance" = none) (hC : X.mg x = some (.ref C)) (hk : ∀ c ∈ cs, ExcIs X.K c (.ref C) (b c))
    (hN : X.N[i]? = some y := by rfl) (hv : Vis X.env.scope y := by first | exact Or.inl rfl | exact Or.inr (Or.inl rfl) | exact Or.inr (Or.inr rfl)) (hdy : (y == ("__debug__" : Str)) = false := by decide) (hcd : (y == ("__classdict__" : Str)) = false := by decide)
    (hg : Gl X "isinstance" := by rfl) (hgx : Gl X x := by rfl) (hdx : (x == ("__debug__" : Str)) = false := by decide)
    (he : starEach [.Name y p3, .Name x p2] X.env = (false, eval (.Name y p3) X.env) :: starEach [.Name x p2] X.env := by rfl) (he2 : starEach [.Name x p2] X.env = (false, eval (.Name x p2) X.env) :: starEach [] X.env := by rfl)
    (hpl : (backTo pos (starEach [.Name x p2] X.env)).any (·.1) = false := by rfl) :
    GE X (.Call (.Name "isinstance" p) [.Name y p3, .Name x p2] [] pos) (gIsE i cs b) :=
  ⟨_, pe_callB call_isKA hg hm (by decide +kernel) (pa_cons (pe_var hN hv hdy hcd) (pa_cons (pe_glob (v := .ref C) hgx hC rfl hdx) pa_nil he2) he) (by decide) (by decide) he hpl, rd_isE (cw := .ref C) (fun u h => h) hk fun σ H Q v e q => ⟨v, e, q⟩⟩
theorem e_isEB (i : Nat) (cs : List Str) {T : String} (hm : X.mg "isinstance" = none) (hmx : X.mg x = none) (hb : bootBuiltins x = some (.type T)) (hk : ∀ c ∈ cs, ExcIs X.K c (.type T) true)
    (hN : X.N[i]? = some y := by rfl) (hv : Vis X.env.scope y := by first | exact Or.inl rfl | exact Or.inr (Or.inl rfl) | exact Or.inr (Or.inr rfl)) (hdy : (y == ("__debug__" : Str)) = false := by decide) (hcd : (y == ("__classdict__" : Str)) = false := by decide)
    (hg : Gl X "isinstance" := by rfl) (hgx : Gl X x := by rfl) (hnx : x ≠ "__name__" := by decide) (hdx : (x == ("__debug__" : Str)) = false := by decide)
    (he : starEach [.Name y p3, .Name x p2] X.env = (false, eval (.Name y p3) X.env) :: starEach [.Name x p2] X.env := by rfl) (he2 : starEach [.Name x p2] X.env = (false, eval (.Name x p2) X.env) :: starEach [] X.env := by rfl)
    (hpl : (backTo pos (starEach [.Name x p2] X.env)).any (·.1) = false := by rfl) :
    GE X (.Call (.Name "isinstance" p) [.Name y p3, .Name x p2] [] pos) (gIsE i cs fun _ => true) :=
  ⟨_, pe_callB call_isKA hg hm (by decide +kernel) (pa_cons (pe_var hN hv hdy hcd) (pa_cons (pe_bltn (v := .ty T) hgx hmx hb rfl hnx hdx) pa_nil he2) he) (by decide) (by decide) he hpl, rd_isE (cw := .ty T) (fun u h => h) hk fun σ H Q v e q => ⟨v, e, q⟩⟩
end
/-! ### a def of one exception -/
def spX (K : PySem.W.Frag) (m : Str → Option D) : Sp := fun vs H Q _ => ∃ a c D z, vs = [.ref a] ∧ ClsD K c D ∧ H a = some (XO (.ref D) a) ∧ m c = some z ∧ LamX.Tabs TabsC.T H ∧ ∀ H' v, SameT H H' → Rp K H' v z → Q v H'
theorem spX_len {K : PySem.W.Frag} {m : Str → Option D} {ps : List Str} (h : ps.length = 1) : ∀ vs H Q E, spX K m vs H Q E → vs.length = ps.length := by
  intro vs H Q E ⟨a, c, D, z, e, _⟩
  rw [e, h]; rfl
def initX (n : Nat) (c : Str) : Sx := ⟨some (.exc c) :: List.replicate (n - 1) none, []⟩
def mX (n : Nat) (g : Sx → Option Out) : Str → Option D := fun c => (g (initX n c)).bind fun o => match o with
  | .nx _ => some .none
  | .rt d _ => some d
  | _ => none
section
variable {P : Program} {w : World} {K : PySem.W.Frag} {mg : Str → Option Value} {base : Heap} {x qual : Str} {st : Stmt} {f : Addr} {fd : FuncData} {N ps : List Str} {k n : Nat} {g : Sx → Option Out}
theorem start_exc {H : Hp} {N : List Str} {a D : Addr} {c : Str} (cd : ClsD K c D) (h : H a = some (XO (.ref D) a)) (hl : 1 ≤ N.length) (tb : LamX.Tabs TabsC.T H) : Ok K [] H H (initX N.length c) (L2.start N [.ref a]) := by
  refine ⟨Sub.refl H, ?_, rfl, List.nodup_nil, fun i q e => ?_, fun j c h => by simp [initX] at h, fun a h => by simp at h, tb⟩
  · simp [initX, L2.start]
  · cases i with
    | zero =>
      simp [initX] at e
      subst e
      exact ⟨.ref a, start_at rfl, .exc cd h⟩
    | succ i =>
      simp only [initX, List.getElem?_cons_succ] at e
      have := List.mem_of_getElem? e
      rw [List.mem_replicate] at this
      exact nomatch this.2
theorem fn_exc (F : Fun K x qual st f fd) (S : FnScope N ps (defScope st)) (hn : ps.length = 1) (hN : 1 ≤ N.length)
    (body : ∀ (cdv : Value) (A : Around) (outer : List Env) (s : Shared) (H : Hp) (E : XK), Room k (A.deeper (envOfC qual (defScope st) s.heap.objs.size f cdv)) → GSs (cxF P w K mg base N qual st f cdv A outer s H E) AnyB (defBody st) g) :
    FnOk P w K mg base CX0 (k + 1) f fd ps (spX K (mX N.length g)) := by
  refine F.ok S (spX_len hn) fun cdv A outer s H vs Q E hr h => ?_
  obtain ⟨a, c, D, z, rfl, cd, ha, e, tb, post⟩ := h
  obtain ⟨t, p, rd⟩ := (body cdv A outer s H E hr).ex
  refine ⟨t, p, ?_⟩
  obtain ⟨o, e1, e⟩ := bind_inv e
  refine rd H [] [] H H _ (L2.start N [.ref a]) o _ trivial (SameT.refl H) (List.prefix_refl _) (start_exc cd ha hN tb) e1 ?_
  cases o with
  | nx S => cases e; exact fun A1 F1 H1 σ1 s1 p1 k1 => post H1 .non (s1.trans k1.sub.same.t) .non
  | rt d S => cases e; exact fun A1 F1 H1 σ1 v s1 p1 k1 rv => post H1 v (s1.trans k1.sub.same.t) (rv.mono k1.sub.same.t _ _)
  | bk S => cases e
  | ct S => cases e
  | rs r S => cases e
  | ro j S => cases e
theorem has_exc (D : DefAt K mg x st ps) (S : FnScope N ps (defScope st)) (hn : ps.length = 1) (hN : 1 ≤ N.length) (body : Body P w K mg base N x st k AnyB g) : Has P w K mg base x (k + 1) ps (spX K (mX N.length g)) :=
  let ⟨f, fd, m, F, b⟩ := D; ⟨f, fd, m, F.kp, b, fn_exc F S hn hN (body f)⟩
end
def gCallX (i : Nat) (m : Str → Option D) : M D := fun S => match S.sl[i]? with
  | some (some (.exc c)) => (m c).map fun z => (z, S)
  | _ => none
section
variable {X : Cx} {pos p py : Pos} {x y : Str} {k : Nat} {ps : List Str}
theorem e_callX {m : Str → Option D} (i : Nat) (h : Has X.prog X.w X.K X.mg X.base x k ps (spX X.K m)) (hr : Room k X.A) (hN : X.N[i]? = some y := by rfl) (hv : Vis X.env.scope y := by first | exact Or.inl rfl | exact Or.inr (Or.inl rfl) | exact Or.inr (Or.inr rfl)) (hdy : (y == ("__debug__" : Str)) = false := by decide) (hcd : (y == ("__classdict__" : Str)) = false := by decide)
    (hg : Gl X x := by rfl) (hdb : (x == ("__debug__" : Str)) = false := by decide) (he : starEach [.Name y py] X.env = (false, eval (.Name y py) X.env) :: starEach [] X.env := by rfl) (hpl : (backTo pos (starEach [] X.env)).any (·.1) = false := by rfl) :
    GE X (.Call (.Name x p) [.Name y py] [] pos) (gCallX i m) := by
  obtain ⟨fa, fd, hm, kp, b, F0⟩ := h
  refine ⟨_, pe_callF F0 hr hg hm kp b .nil pass0 (pa_cons (pe_var hN hv hdy hcd) pa_nil he) hdb he hpl, fun A F H S σ d S' Q k h post => ?_⟩
  unfold gCallX at h
  split at h
  · rename_i c e
    obtain ⟨z, h2, h⟩ := Option.map_eq_some_iff.mp h
    cases h
    obtain ⟨a, D, e1, cd, hF⟩ := k.eslot e
    exact ⟨_, e1, F, k.sub, a, c, D, _, rfl, cd, hF, h2, k.tab, fun G' v sm rv => ⟨fun b xs q => sm.old b _ q trivial, fun lost => post A G' _ v (List.prefix_refl _) sm (k.mix sm lost) rv⟩⟩
  · cases h
end
/-! ### try: .. except C as n: y = n -/
def tCan (K : PySem.W.Frag) (P : Hp → Prop) (W : WX) (g : Sx → Option (Zr Out)) : TS := fun E σ H => ∃ B A0 A F S r, P B ∧ SameT B F ∧ A0 <+: A ∧ Ok K A F H S σ ∧ g S = some r ∧ (∀ o, r = .ok o → OutP K B A0 o E) ∧ (∀ e, r = .error e → ZErr K W A0 B e)
def qTry (cs : List Str) (i j : Nat) (g : Sx → Option (Zr Out)) : Sx → Option Out := fun S => (g S).bind fun r => match r with
  | .ok o => some o
  | .error e => if e.1 ∈ cs ∧ i < e.2.sl.length then some (.nx ⟨(e.2.sl.set j (some (.exc e.1))).set i none, e.2.os⟩) else none
section
variable {X : Cx} {P : Hp → Prop} {body : List Stmt} {g : Sx → Option (Zr Out)} {pos p p1 p2 p3 p4 p5 : Pos} {x n y : Str} {W : WX}
theorem pss_can (h : GZs X P W body g) : PSs X body (tCan X.K P W g) := by
  obtain ⟨t, p, r⟩ := h.ex
  exact ⟨fun pins s σ H E I ⟨B, A0, A, F, S, r0, hP, s1, p1, k, e, post, err⟩ => p.run pins s σ H E I (r B A0 A F H S σ r0 E hP s1 p1 k e post err)⟩
theorem Ok.clr {K : PySem.W.Frag} {A : List Addr} {F H : Hp} {S : Sx} {σ : L2.St} (k : Ok K A F H S σ) (i : Nat) : Ok K A F H ⟨S.sl.set i none, S.os⟩ (σ.set i none) := by
  refine ⟨k.sub, by rw [List.length_set, List.length_set]; exact k.len, k.alen, k.nd, fun j r e => ?_, k.cell, k.trk, k.tab⟩
  by_cases h : i = j
  · subst h
    rw [List.getElem?_set] at e
    split at e
    · split at e <;> cases e
    · exact absurd rfl ‹¬ _›
  · rw [List.getElem?_set_ne h] at e
    rw [List.getElem?_set_ne h]
    exact k.rslot j r e
theorem s_try (cs : List Str) (i j : Nat) {D0 : Addr} (hN : X.N.Nodup) (hm : X.mg x = some (.ref D0)) (hx : ∀ c ∈ cs, ∀ D, ClsD X.K c D → PySem.W.exmOne X.K (.ref D) (.ref D0) = some true)
    (hb : ∀ (W : WX) (pn : List (Addr × Obj)) (xe : Value → Shared → Prop), Takes (X.tr pn xe) W → GZs (X.tr pn xe) P W body g)
    (hij : i ≠ j := by decide) (hi : X.N[i]? = some n := by rfl) (hj : X.N[j]? = some y := by rfl) (hex : X.ex = [] := by rfl) (hs : X.stack = X.env :: X.outer := by rfl) (hf : X.env.frame = some X.env.locals := by rfl)
    (hln : X.env.kindOf n = some .local := by rfl) (hgx : Gl X x := by rfl) (hdx : (x == ("__debug__" : Str)) = false := by decide)
    (hv : Vis X.env.scope n := by first | exact Or.inl rfl | exact Or.inr (Or.inl rfl) | exact Or.inr (Or.inr rfl)) (hdy : (n == ("__debug__" : Str)) = false := by decide) (hcd : (n == ("__classdict__" : Str)) = false := by decide)
    (hy : Loc X.env.scope y := by first | exact Or.inl rfl | exact Or.inr rfl) (hyl : X.env.scope.names.lookup y = some .local := by rfl) (hsw : swapsWith (.Name n p5) (some (.Name y p4)) p3.line X.env = pure false := by rfl) :
    GS X P (.Try body [.ExceptHandler (some (.Name x p)) (some n) [.Assign [.Name y p4] (.Name n p5) p3] p2] [] [] p1) (qTry cs i j g) := by
  refine ⟨_, ps_try_kept (i := i) (c := .ref D0) (Wout := fun _ _ _ _ => False) hex hs hf hN hi hln ⟨hgx, hdx, .inl hm⟩ takes0 (tb := fun W => tCan X.K P W g) (ts := fun _ _ => tAsg (tVar i) (gName j))
    (fun W pn xe tk _ => pss_can (hb W pn xe tk)) (fun a oe cls pn => pss_one (ps_set (X := X.suite a ((a, oe) :: pn)) hN hj hy (pe_var (X := X.suite a ((a, oe) :: pn)) hi hv hdy hcd) hsw (.inr hyl))), fun B A0 A F H S σ o E hP s p k e post => ?_⟩
  obtain ⟨r0, e1, e⟩ := bind_inv e
  refine ⟨B, A0, A, F, S, r0, hP, s, p, k, e1, fun o0 e0 => ?_, fun er e0 => ?_⟩
  · subst e0
    cases e
    exact post
  · subst e0
    simp only at e
    split at e
    case isFalse => cases e
    rename_i hc0
    obtain ⟨hc, hl0⟩ := hc0
    cases e
    intro A' F' H' σ' D p' s' k' cd
    refine ⟨true, hx _ hc D cd, fun _ => ⟨rfl, fun a ha => ?_⟩, (fun z => nomatch z)⟩
    have fa : F' a = none := k'.sub.none ha
    have k2 : Ok X.K A' (upd F' a (XO (.ref D) a)) (upd H' a (XO (.ref D) a)) er.2 σ' := k'.laid ha
    have rr : Rr X.K A' (upd F' a (XO (.ref D) a)) (.ref a) (.exc er.1) := .exc cd upd_same
    have hl : i < σ'.length := by rw [← k'.len]; exact hl0
    refine ⟨.ref a, ?_, ?_⟩
    · rw [List.getElem?_set_self hl]
    · refine post A' (upd F' a (XO (.ref D) a)) _ _ (s'.trans (same_upd fa)) p' ?_
      have k3 := (k2.setR (i := j) rr).clr i
      have es : ((σ'.set i (some (.ref a))).set j (some (.ref a))).set i none = (σ'.set j (some (.ref a))).set i none := by
        rw [List.set_comm _ _ hij, List.set_set]
      show Ok X.K A' (upd F' a (XO (.ref D) a)) (upd H' a (XO (.ref D) a)) _ (((σ'.set i (some (.ref a))).set j (some (.ref a))).set i none)
      rw [es]
      exact k3
end
end Fu

set_option maxHeartbeats 4000000
namespace Fu
open PySem PySem.Spec PyProof.Rows L2 RZ
variable [TabsC]
/-! ### the facts of the classes -/
def TryT (K : PySem.W.Frag) (mg : Str → Option Value) (x : Str) (cs : List Str) : Prop := ∃ D0, mg x = some (.ref D0) ∧ ∀ c ∈ cs, ∀ D, ClsD K c D → PySem.W.exmOne K (.ref D) (.ref D0) = some true
def LookT (K : PySem.W.Frag) (mg : Str → Option Value) (x : Str) (cs : List Str) (b : Str → Bool) : Prop := ∃ D, mg x = some (.ref D) ∧ ∀ c ∈ cs, ExcIs K c (.ref D) (b c)
theorem cls_same {K : PySem.W.Frag} {c : Str} {f D : Addr} (a : PySem.W.nsIn K mainGlobals c = some (some (.ref f))) (d : ClsD K c D) : D = f := by
  unfold ClsD at d
  rw [a] at d
  cases d; rfl
theorem ExcIs.mk {K : PySem.W.Frag} {c : Str} {f : Addr} {cv : Value} {b b' : Bool} (a : PySem.W.nsIn K mainGlobals c = some (some (.ref f))) (e : ExcC K f) (k : PySem.W.kitOne K (.ref f) cv = some b') (h : b' = b) : ExcIs K c cv b := fun D d => by
  cases cls_same a d
  exact ⟨e, h ▸ k⟩
theorem cls_one {K : PySem.W.Frag} {c : Str} {f : Addr} {cv : Value} (a : PySem.W.nsIn K mainGlobals c = some (some (.ref f))) (k : PySem.W.exmOne K (.ref f) cv = some true) : ∀ D, ClsD K c D → PySem.W.exmOne K (.ref D) cv = some true := fun D d => by
  cases cls_same a d
  exact k
theorem alls_nil {α : Type} {P : α → Prop} : ∀ c ∈ ([] : List α), P c := fun _ h => nomatch h
theorem alls_cons {α : Type} {P : α → Prop} {a : α} {l : List α} (h : P a) (t : ∀ c ∈ l, P c) : ∀ c ∈ a :: l, P c := List.forall_mem_cons.mpr ⟨h, t⟩
theorem sub_self {K : PySem.W.Frag} {C : Addr} {bm : List Value} {n : String} (x : PySem.W.excIn K C bm n = true) : PySem.W.subIn K (.ref C) (.ref C) = some true := by
  unfold PySem.W.excIn at x
  split at x
  · rename_i dict cd sl e
    split at x
    · rename_i C' bm' h1 h2 h3 n' h4 em _
      simp only [Bool.and_eq_true, beq_iff_eq] at x
      obtain ⟨⟨⟨⟨⟨rfl, _⟩, _⟩, _⟩, _⟩, _⟩ := x
      simp only [PySem.W.subIn, PySem.W.mroIn, PySem.W.clsIn, e, Option.bind_some, em]
      simp
    · cases x
  · cases x
theorem kit_own {K : PySem.W.Frag} {D C : Addr} {b : Bool} {bm : List Value} {n : String} (x : PySem.W.excIn K D bm n = true) (iP : PySem.W.isClsIn K C = true) (tP : PySem.W.typeIn K (.ref C) = some (.type "type")) (sP : PySem.W.subIn K (.ref D) (.ref C) = some b) : PySem.W.kitOne K (.ref D) (.ref C) = some b := by
  unfold PySem.W.kitOne
  split
  · rename_i h
    have h := eq_of_beq h
    cases h
    rw [sub_self x] at sP
    exact sP
  · unfold PySem.W.kitCls
    have i2 : (PySem.W.clsIn K C).isSome = true := iP
    simp [i2, tP, sP]
theorem kit_bt {K : PySem.W.Frag} {D : Addr} {T : String} {b : Bool} (m : PySem.W.kitMeta T = true) (sP : PySem.W.subIn K (.ref D) (.type T) = some b) : PySem.W.kitOne K (.ref D) (.type T) = some b := by
  unfold PySem.W.kitOne
  rw [if_neg (by simp)]
  show (if PySem.W.kitMeta T = true then PySem.W.subIn K (.ref D) (.type T) else none) = some b
  rw [if_pos m]; exact sP
theorem exm_own {K : PySem.W.Frag} {D C : Addr} {b : Bool} (bP : PySem.W.subIn K (.ref C) (.type "BaseException") = some true) (iP : PySem.W.isClsIn K C = true) (tP : PySem.W.typeIn K (.ref C) = some (.type "type")) (sP : PySem.W.subIn K (.ref D) (.ref C) = some b) : PySem.W.exmOne K (.ref D) (.ref C) = some b := by
  unfold PySem.W.exmOne
  rw [if_pos (by rw [bP]; rfl)]
  unfold PySem.W.kitCls
  have i2 : (PySem.W.clsIn K C).isSome = true := iP
  simp [i2, tP, sP]
section
variable {X : Cx} {pos p p2 p3 p1 p4 p5 : Pos} {y x n : Str} {P : Hp → Prop} {body : List Stmt} {g : Sx → Option (Zr Out)}
theorem e_isET (i : Nat) {cs : List Str} {b : Str → Bool} (hm : X.mg "isinstance" = none) (T : LookT X.K X.mg x cs b)
    (hN : X.N[i]? = some y := by rfl) (hv : Vis X.env.scope y := by first | exact Or.inl rfl | exact Or.inr (Or.inl rfl) | exact Or.inr (Or.inr rfl)) (hdy : (y == ("__debug__" : Str)) = false := by decide) (hcd : (y == ("__classdict__" : Str)) = false := by decide)
    (hg : Gl X "isinstance" := by rfl) (hgx : Gl X x := by rfl) (hdx : (x == ("__debug__" : Str)) = false := by decide)
    (he : starEach [.Name y p3, .Name x p2] X.env = (false, eval (.Name y p3) X.env) :: starEach [.Name x p2] X.env := by rfl) (he2 : starEach [.Name x p2] X.env = (false, eval (.Name x p2) X.env) :: starEach [] X.env := by rfl)
    (hpl : (backTo pos (starEach [.Name x p2] X.env)).any (·.1) = false := by rfl) :
    GE X (.Call (.Name "isinstance" p) [.Name y p3, .Name x p2] [] pos) (gIsE i cs b) :=
  let ⟨_, hC, hk⟩ := T; e_isE i cs b hm hC hk hN hv hdy hcd hg hgx hdx he he2 hpl
theorem s_tryT (i j : Nat) {cs : List Str} (hN : X.N.Nodup) (T : TryT X.K X.mg x cs)
    (hb : ∀ (W : WX) (pn : List (Addr × Obj)) (xe : Value → Shared → Prop), Takes (X.tr pn xe) W → GZs (X.tr pn xe) P W body g)
    (hij : i ≠ j := by decide) (hi : X.N[i]? = some n := by rfl) (hj : X.N[j]? = some y := by rfl) (hex : X.ex = [] := by rfl) (hs : X.stack = X.env :: X.outer := by rfl) (hf : X.env.frame = some X.env.locals := by rfl)
    (hln : X.env.kindOf n = some .local := by rfl) (hgx : Gl X x := by rfl) (hdx : (x == ("__debug__" : Str)) = false := by decide)
    (hv : Vis X.env.scope n := by first | exact Or.inl rfl | exact Or.inr (Or.inl rfl) | exact Or.inr (Or.inr rfl)) (hdy : (n == ("__debug__" : Str)) = false := by decide) (hcd : (n == ("__classdict__" : Str)) = false := by decide)
    (hy : Loc X.env.scope y := by first | exact Or.inl rfl | exact Or.inr rfl) (hyl : X.env.scope.names.lookup y = some .local := by rfl) (hsw : swapsWith (.Name n p5) (some (.Name y p4)) p3.line X.env = pure false := by rfl) :
    GS X P (.Try body [.ExceptHandler (some (.Name x p)) (some n) [.Assign [.Name y p4] (.Name n p5) p3] p2] [] [] p1) (qTry cs i j g) :=
  let ⟨_, hm, hx⟩ := T; s_try cs i j hN hm hx hb hij hi hj hex hs hf hln hgx hdx hv hdy hcd hy hyl hsw
theorem t_isN (i : Nat) {j} (hN : X.N[i]? = some y := by rfl) (hv : Vis X.env.scope y := by first | exact Or.inl rfl | exact Or.inr (Or.inl rfl) | exact Or.inr (Or.inr rfl)) (hdy : (y == ("__debug__" : Str)) = false := by decide) (hcd : (y == ("__classdict__" : Str)) = false := by decide) :
    GT X (.Compare (.Name y p) [.Is] [.Constant .none j p2] pos) (gB (gIsN i)) := ⟨_, pt_cmpR op_isN (pe_var hN hv hdy hcd) pe_non rfl, rd_test (rd_isN i)⟩
end
end Fu

set_option maxHeartbeats 4000000
namespace L2
open PySem PySem.Spec PyProof.Rows
open Fu (XO)
end L2
namespace Fu
open PySem PySem.Spec PyProof.Rows L2 RZ
variable [TabsC]
/-! ### looks by many classes at once -/
structure AnyT (X : Cx) (es : List Expr) (cs : List Str) (b : Str → Bool) : Prop where
  ex : ∃ (Cs : List Addr) (t : TA), PA X es t ∧ (∀ σ H Q, Q (Cs.map V.ref) H → t σ H Q) ∧ (∀ c ∈ cs, ∀ D, ClsD X.K c D → PySem.W.kitAny X.K (.ref D) (Cs.map Value.ref) = some (b c)) ∧ Cs.length = es.length
section
variable {X : Cx} {pos p p2 p3 p4 : Pos} {y x : Str} {es : List Expr} {cs : List Str} {b b2 : Str → Bool}
theorem any_cons (T : LookT X.K X.mg x cs b) (h : AnyT X es cs b2) (hgx : Gl X x := by rfl) (hdx : (x == ("__debug__" : Str)) = false := by decide) (he : starEach (.Name x p :: es) X.env = (false, eval (.Name x p) X.env) :: starEach es X.env := by rfl) :
    AnyT X (.Name x p :: es) cs (fun c => b c || b2 c) := by
  obtain ⟨C, hC, hk⟩ := T
  obtain ⟨Cs, t, pa, ht, ha, hn⟩ := h.ex
  refine ⟨C :: Cs, _, pa_cons (pe_glob (v := .ref C) hgx hC rfl hdx) pa he, fun σ H Q q => ht σ H _ q, fun c hc D cd => ?_, by rw [List.length_cons, List.length_cons, hn]⟩
  have k1 := (hk c hc D cd).2
  have k2 := ha c hc D cd
  refine kitAny_cons k1 (fun e1 => ?_) (fun e1 => by rw [e1]; rfl)
  rw [e1]; exact k2
end
/-! ### two new lists at once -/
section
variable {X : Cx} {P : Hp → Prop} {pos py : Pos} {x y : Str} {a b : Expr} {ga gb ge : M D}
end
/-! ### more of what may raise -/
section
variable {X : Cx} {W : WX} {pos p : Pos} {x : Str} {e : Expr} {es : List Expr} {id : String} {k : Nat}
end
end Fu

set_option maxHeartbeats 4000000
namespace L2
open PySem PySem.Spec PyProof.Rows
open Fu (dictO)
/-! ### {t: v}, t a tuple of ints and texts: a dict, what it holds is not told -/
end L2
namespace Fu
open PySem PySem.Spec PyProof.Rows L2 RZ
variable [TabsC]
section
variable {X : Cx} {pos : Pos} {e v : Expr} {ge gv : M D} {k : Nat}
end
end Fu

set_option maxHeartbeats 4000000
namespace Fu
open PySem PySem.Spec PyProof.Rows L2
variable [TabsC]
section
variable {X : Cx} {pos apos p p2 sp c0 c1 : Pos} {a e o : Expr} {ga ge go : M D} {k : Nat} {y z : Str} {i : Int} {j j0 j1 : Nat}
/-! ### line[2].replace("b", "a"): the index gives out a token -/
/-! ### letters.index(sign) of a text -/
end
end Fu

set_option maxHeartbeats 4000000
namespace PySem
open Sem (wp)
set_option maxHeartbeats 4000000 in
theorem meets_enumerate_newB0 {v : Value} {o : Obj} {H : Heap → Prop} (B : Begins v o H) :
    Meets (Builtin.«enumerate.__new__» ⟨[.type "enumerate", v], []⟩) (fun _ R s => H s.heap ∧
      R (.ok (.ret (.ref (s.heap.push o).objs.size))) { s with heap := (s.heap.push o).push { cls := .type "enumerate", data := .fields #[.none, .bool false, .ref s.heap.objs.size, rawInt 0, .none, .none] } }) :=
  .of_wp fun prog w A R s h => by
    obtain ⟨hp, g, d, tk, os⟩ := s; obtain ⟨h1, h⟩ := h
    have hsub := sub_enumerate
    have q1 : ∀ {A' : Around} {E : Value → Shared → Prop} {Q : Value → Shared → Prop}, Q (.ref hp.objs.size) ⟨hp.push o, g, d, tk, os⟩ → wpAny (model prog w) A' (pyIter v) Q E ⟨hp, g, d, tk, os⟩ :=
      fun q => B.iter prog w _ _ ⟨hp, g, d, tk, os⟩ _ h1 q
    wp_walk using q1
    refine wpAny_stack_any fun st => wpAny_pure ?_
    split
    · rename_i c _ _ _ _ _
      cases (c == Value.type "enumerate")
      · wp_walk using q1
        exact ⟨_, rfl, h⟩
      · wp_walk using q1
        exact ⟨_, rfl, h⟩
    · wp_walk using q1
      exact ⟨_, rfl, h⟩
section
variable {prog : Program} {w : World} {A : Around} {E : Value → Shared → Prop} {s : Shared}
theorem enum_begins0 {v : Value} {o : Obj} {H : Heap → Prop} {Q : Value → Shared → Prop} (B : Begins v o H) (h1 : H s.heap)
    (h : ∀ h', IsEnum h' (s.heap.objs.size + 1) s.heap.objs.size 0 .none → h'.get? s.heap.objs.size = some o → h'.objs.size = s.heap.objs.size + 2 →
      (∀ b o, s.heap.get? b = some o → h'.get? b = some o) → Q (.ref (s.heap.objs.size + 1)) { s with heap := h' }) :
    wpAny (model prog w) A (call (.type "enumerate") [v]) Q E s := by
  refine callType_new F.called_enumerate (by decide) (F.typeCall_enumerate_1 _) (F.newCall_enumerate_1 _) (fun obj => F.args_object_init_2 obj _) F.entry_enumerate_new
    (meets_enumerate_newB0 B) ⟨h1, ?_⟩
  have hz : (s.heap.push o).objs.size = s.heap.objs.size + 1 := Heap.size_push ..
  show _ ∧ _
  rw [hz]
  have he : IsEnum ((s.heap.push o).push { cls := .type "enumerate", data := .fields #[.none, .bool false, .ref s.heap.objs.size, rawInt 0, .none, .none] }) (s.heap.objs.size + 1) s.heap.objs.size 0 .none := by
    have := Heap.get?_push_size (s.heap.push o) (o := { cls := .type "enumerate", data := .fields #[.none, .bool false, .ref s.heap.objs.size, rawInt 0, .none, .none] }) rfl
    rw [hz] at this; exact this
  refine ⟨⟨_, he, rfl⟩, h _ he (Heap.get?_push_of_some _ (Heap.get?_push_size _ B.free)) (by rw [Heap.size_push, hz]) fun b o x => Heap.get?_push_of_some _ (Heap.get?_push_of_some _ x)⟩
theorem wpAny_pyNext_enumT_end {e it l : Addr} {i : Nat} {items : Array Value} {old : Value} {Q : Option Value → Shared → Prop} (hh : A.handled = none)
    (he : IsEnum s.heap e it i old) (hit : s.heap.IsTupleIter it l i) (hl : s.heap.IsTuple l items) (hx : items[i]? = none)
    (hQ : ∀ h', Heap.ExtBut it s.heap h' → Q none { s with heap := h' }) : wpAny (model prog w) A (pyNext (.ref e)) Q E s := by
  have hT : s.TypeIs (.ref e) "enumerate" := ⟨_, he, rfl⟩
  unfold pyNext
  refine wpAny_bind (wpAny_attempt (wpAny_callSpecial?_slot (name := Str.ofString "__next__") hT F.slot_enumerate_next
    (wpAny_call_entry F.slot_enumerate_next hT F.entry_enumerate_next ?_ (F.args_enumerate_next_1 _))))
  show wpAny _ _ (field (.ref e) 2 >>= _) _ _ _
  refine wpAny_bind (wpAny_field he rfl (x := .ref it) rfl ?_)
  refine wpAny_bind (wpAny_nextOf_tuple_end hh hit hl hx fun h' x he' hx' => ?_)
  obtain ⟨o, ho, hc⟩ := hx'
  refine wpAny_bind (wpAny_isInstance (T := "StopIteration") (b := true) ⟨o, ho, hc⟩ isSubtype_stop ?_)
  exact wpAny_pure (hQ _ he')
end
end PySem
namespace L2
open PySem PySem.Spec PyProof.Rows
/-- the tuple at a, each item in a new pair -/
def IteT (K : PySem.W.Frag) (a : Addr) : It :=
  ⟨fun i H => ∃ (xs : List V) (x : V), SqT K H a xs ∧ xs[i]? = some x, fun i H v H' => ∃ T x, v = .ref T ∧ H T = none ∧ H' = upd H T (.tup [.int (i : Nat), x]) ∧ ∀ xs, SqT K H a xs → xs[i]? = some x, fun i H => ∃ xs : List V, SqT K H a xs ∧ xs.length ≤ i⟩
theorem turn_enumT {P : Program} {w : World} {K : PySem.W.Frag} {elts : List Expr} {kk : Nat} {tpos : Pos} (a e it : Addr) :
    Turn P w K (.Tuple elts kk tpos) (IteT K a) [e, it] e (fun i h => (∃ old, IsEnum h e it ((i : Nat) : Int) old) ∧ h.IsTupleIter it a i ∧ e ≠ it ∧ e ≠ a ∧ a ≠ it) where
  mem := by simp
  obj := fun i h st b hb => by
    obtain ⟨⟨old, he⟩, ⟨o, ho, hc, hd⟩, _⟩ := st
    have e' : b = e ∨ b = it := by simpa using hb
    rcases e' with z | z
    · rw [z]; exact ⟨_, he, fun v q => nomatch q⟩
    · rw [z]; exact ⟨o, ho, fun v q => by rw [hd] at q; cases q⟩
  keep := fun i h h' st k => let ⟨⟨old, he⟩, hi, hne⟩ := st; ⟨⟨old, k e (by simp) _ he⟩, hi.at fun o q => k it (by simp) o q, hne⟩
  item := by
    intro X hP hw hK hc i pins s σ H E I hf st hg
    subst hP hw hK
    obtain ⟨⟨old, he⟩, hit, hne, hea, hai⟩ := st
    obtain ⟨xs, x, hq, hx⟩ := hg
    obtain ⟨its, rv, p, hz⟩ := I.tuple hq
    obtain ⟨u, hu, ru⟩ := rv.get hx
    have hel : e < s.heap.objs.size := Heap.lt_size he
    have hil : it < s.heap.objs.size := by obtain ⟨_, q, _⟩ := hit; exact Heap.lt_size q
    have hlt : i < its.toArray.size := by
      have := (List.getElem?_eq_some_iff.mp hu).1
      simpa using this
    refine PySem.wpAny_with_toks (n := s.toks) (Nat.le_refl _) ?_
    refine wpAny_pyNext_enum_itemD (Draws.tuple (prog := X.prog) (w := X.w) (A := X.A.in1) (show X.A.in1.handled = none from I.ok.hd hc) it a hai its.toArray) he ⟨hit, p⟩ hlt hne (by simp [hne, hea]) fun x' h' tk hP ho hst hT hsz hk htk => ?_
    have ex : x' = u := by
      have hu' : its.toArray[i]? = some u := by simpa using hu
      rw [hu'] at hP; exact (Option.some.inj hP).symm
    subst ex
    obtain ⟨hit', _⟩ := hst
    refine ⟨_, rfl, wpAny_letOwnedTupleGo_enum (s := { s with heap := h', toks := tk + 1 }) ho fun h'' he' sb => ?_⟩
    have hT2 : h''.get? s.heap.objs.size = some { cls := .type "tuple", data := .seq #[.int i tk, x'] } := (sb.2 _ (Nat.ne_of_gt hel)).trans hT
    have new : ObjOk X.prog X.w (upd H s.heap.objs.size (.tup [.int (i : Nat), x])) h'' s.heap.objs.size (.tup [.int (i : Nat), x]) :=
      ⟨by show 2 ≤ sizeLine; decide, [.int i tk, x'], .cons ⟨_, rfl⟩ (.cons ru .nil), ⟨_, hT2, rfl, _, rfl⟩⟩
    have I1 : Inv X pins σ (upd H s.heap.objs.size (.tup [.int (i : Nat), x])) { s with heap := h'', toks := tk + 1 } :=
      I.turnedNew (ch := [e, it]) (fun b ob hb q => (sb.2 b (fun z => hb (by simp [z]))).trans (hk b ob (fun z => hb (by simp [z])) (fun z => hb (by simp [z])) q)) hf (Nat.le_refl _) new
    refine ⟨.ref s.heap.objs.size, _, I1, rfl, ⟨_, x, rfl, I.hok.fresh (Nat.le_refl _), rfl, fun ys hy => by rw [I.tuple_inj hy hq]; exact hx⟩, ⟨⟨x', ?_⟩, hit'.at fun o q => (sb.2 it (Ne.symm hne)).trans q, hne, hea, hai⟩, fun b hb => ?_⟩
    · have e1 : ((i + 1 : Nat) : Int) = (i : Int) + 1 := by omega
      rw [e1]; exact he'
    · have hb' : b < s.heap.objs.size := by
        have e' : b = e ∨ b = it := by simpa using hb
        rcases e' with z | z
        · rw [z]; exact hel
        · rw [z]; exact hil
      rw [upd_ne (Nat.ne_of_lt hb')]
      exact (hf b hb).1
  done := by
    intro X hP hw hK hc i pins s σ H E I hf st hg
    subst hP hw hK
    obtain ⟨⟨old, he⟩, hit, hne⟩ := st
    obtain ⟨xs, hq, hx⟩ := hg
    obtain ⟨its, rv, p, hz⟩ := I.tuple hq
    obtain ⟨f0, f1, f2, f3, f4, f5⟩ := hf it (by simp)
    have hl := rv.length
    exact wpAny_pyNext_enumT_end (I.ok.hd hc) he hit p (by simp; omega) fun h' eb => ⟨rfl, I.turned (t' := s.toks) (fun b o hb q => eb b o hb q) f0 f1 f3 f4 f5⟩
  self := fun A i s Q E st h => let ⟨⟨_, he⟩, _⟩ := st; wpAny_pyIter_enum he h
def iEnumA (K : PySem.W.Frag) (ta : TA) : TI := fun σ H R => ta σ H fun vs H1 => ∃ a xs, vs = [.ref a] ∧ ((SqL K H1 a xs ∧ R (Ite K a) H1) ∨ (SqT K H1 a xs ∧ R (IteT K a) H1))
theorem pi_enumA {X : Cx} {e : Expr} {ta : TA} {p pos tpos : Pos} {elts : List Expr} {kk : Nat} (hg : Gl X "enumerate") (hm : X.mg "enumerate" = none) (ha : PA X [e] ta) (hs : starEach [e] X.env = [(false, eval e X.env)] := by rfl) :
    PI X (.Tuple elts kk tpos) (.Call (.Name "enumerate" p) [e] [] pos) (iEnumA X.K ta) := by
  refine ⟨fun pins s σ H R I h => ?_⟩
  refine Call_ (ld_blt I hg hm boot_enumerate (PyProof.Rows.callWith_type1 (thn (ha.run pos pins s σ H _ I h) fun us s1 ⟨vs, H1, I1, r1, q1⟩ => ?_) hs rfl))
  obtain ⟨a, xs, ex, q1⟩ := q1
  subst ex
  cases r1 with
  | cons r rr =>
    cases rr
    cases r
    have hlt : ∀ b, b = s1.heap.objs.size + 1 ∨ b = s1.heap.objs.size → s1.heap.objs.size ≤ b := fun b e' => by
      rcases e' with z | z
      · rw [z]; exact Nat.le_add_right _ _
      · rw [z]; exact Nat.le_refl _
    rcases q1 with ⟨hq, q⟩ | ⟨hq, q⟩
    · obtain ⟨its, rv, p', hz⟩ := I1.list hq
      refine call_enumerate_list p'.isList fun h' he hit hsz hk => wpAny_pyIter_enum he ?_
      have I2 : Inv X pins σ H1 { s1 with heap := h' } := I1.kept (t' := s1.toks) hk
      refine ⟨s1.heap.objs.size + 1, [s1.heap.objs.size + 1, s1.heap.objs.size], _, _, H1, rfl, I2, turn_enum a (s1.heap.objs.size + 1) s1.heap.objs.size, ⟨⟨.none, he⟩, hit, Nat.succ_ne_self _⟩, fun b hb => ?_, q⟩
      have hle := hlt b (by simpa using hb)
      exact I1.fpOk hle (I1.hok.fresh hle)
    · obtain ⟨its, rv, p', hz⟩ := I1.tuple hq
      have hal : a < s1.heap.objs.size := by obtain ⟨_, q, _⟩ := p'; exact Heap.lt_size q
      refine enum_begins0 (begins_tuple a its.toArray) p' fun h' he hit hsz hk => wpAny_pyIter_enum he ?_
      have I2 : Inv X pins σ H1 { s1 with heap := h' } := I1.kept (t' := s1.toks) hk
      refine ⟨s1.heap.objs.size + 1, [s1.heap.objs.size + 1, s1.heap.objs.size], _, _, H1, rfl, I2, turn_enumT a (s1.heap.objs.size + 1) s1.heap.objs.size, ⟨⟨.none, he⟩, ⟨_, hit, rfl, rfl⟩, Nat.succ_ne_self _, Nat.ne_of_gt (Nat.lt_succ_of_lt hal), Nat.ne_of_lt hal⟩, fun b hb => ?_, q⟩
      have hle := hlt b (by simpa using hb)
      exact I1.fpOk hle (I1.hok.fresh hle)
end L2
namespace Fu
open PySem PySem.Spec PyProof.Rows L2
variable [TabsC]
theorem walk_enumT {K : PySem.W.Frag} {F : Hp} {a : Addr} {vs : List V} {xs : List D} (h : SqT K F a vs) (r : Rps K F vs xs) : Walk K F (IteT K a) (enumD 0 xs) where
  stop := fun i H s hi => ⟨vs, sqT_same s h, by rw [enumD_len] at hi; rw [r.length]; exact hi⟩
  go := fun i H s hi => by
    rw [enumD_len] at hi
    obtain ⟨v, e, _⟩ := r.get (List.getElem?_eq_getElem hi)
    exact ⟨vs, v, sqT_same s h, e⟩
  yld := fun i d H x H' s hd y => by
    obtain ⟨T, v, rfl, hT, rfl, e1⟩ := y
    rw [enumD_at] at hd
    obtain ⟨d1, hd1, rfl⟩ := Option.map_eq_some_iff.mp hd
    obtain ⟨v', g1, r1⟩ := r.get hd1
    have f1 := e1 vs (sqT_same s h)
    rw [g1] at f1; cases f1
    refine .inr ⟨T, _, _, rfl, hT, rfl, rfl, .cons ?_ (.cons r1 .nil), by show 2 ≤ sizeLine; decide⟩
    rw [Nat.zero_add]
    exact .int _
def gEnumA (g : M (List D)) : M (List D) := fun S => (g S).bind fun p => match p.1 with
  | [.list xs] => some (enumD 0 xs, p.2)
  | [.tuple xs] => some (enumD 0 xs, p.2)
  | _ => none
section
variable {X : Cx} {p pos : Pos} {e : Expr} {gs : M (List D)}
theorem i_enumA {elts : List Expr} {kk : Nat} {tpos : Pos} (hm : X.mg "enumerate" = none) (ha : GA X [e] gs) (hg : Gl X "enumerate" := by rfl) (hs : starEach [e] X.env = [(false, eval e X.env)] := by rfl) : GI X (.Tuple elts kk tpos) (.Call (.Name "enumerate" p) [e] [] pos) (gEnumA gs) := by
  obtain ⟨t, pa, ra⟩ := ha.ex
  refine ⟨_, pi_enumA hg hm pa hs, fun A F H S σ ds S' R k e post => ?_⟩
  obtain ⟨⟨xs, S1⟩, h1, e⟩ := bind_inv e
  simp only at e
  split at e
  · cases e
    refine ra A F H S σ _ _ _ k h1 fun A1 F1 H1 vs p1 s1 k1 r1 => ?_
    obtain ⟨v, rfl, q1⟩ := rps1 r1
    obtain ⟨a, ws, rfl, g1, g2, g3⟩ := rp_list_inv q1
    exact ⟨a, ws, rfl, .inl ⟨SqL.of (k1.sub.same _ _ g1), post A1 F1 H1 _ p1 s1 k1 (walk_enum g1 g2) (by rw [enumD_len]; exact g3)⟩⟩
  · cases e
    refine ra A F H S σ _ _ _ k h1 fun A1 F1 H1 vs p1 s1 k1 r1 => ?_
    obtain ⟨v, rfl, q1⟩ := rps1 r1
    obtain ⟨a, ws, rfl, g1, g2, g3⟩ := rp_tup_inv q1
    exact ⟨a, ws, rfl, .inr ⟨sqT_same k1.sub.same.t g1, post A1 F1 H1 _ p1 s1 k1 (walk_enumT g1 g2) (by rw [enumD_len]; exact g3)⟩⟩
  · cases e
end
end Fu

set_option maxHeartbeats 4000000
namespace Fu
open PySem PySem.Spec PyProof.Rows L2
variable [TabsC]
/-! ### set & set -/
section
variable {P : Program} {w : World} {A : Around} {E : Value → Shared → Prop} {s : Shared}
end
end Fu

set_option maxHeartbeats 4000000
namespace Fu
open PySem PySem.Spec PyProof.Rows L2
variable [TabsC]
section
variable {P : Program} {w : World} {A : Around} {E : Value → Shared → Prop} {s : Shared}
end
/-! ### tracked sets of whole numbers -/
section
variable {X : Cx} {pos p p1 p2 p3 p4 p5 p6 p7 : Pos} {e e2 : Expr} {ge ge2 : M D}
section
variable {k : Nat} (hr : Room k X.A) (m1 : X.mg "set" = none) (ha : GE X e ge) (hb : GE X e2 ge2)
include hr m1 ha hb in
include hr m1 ha hb in
end
end
end Fu

set_option maxHeartbeats 4000000
namespace Fu
open PySem PySem.Spec PyProof.Rows L2
variable [TabsC]
section
variable {X : Cx} {pos apos p p2 : Pos} {a e o : Expr} {es : List Expr} {ga ge go : M D} {gs : M (List D)}
/-! ### str(n), int(text) -/
/-! ### split, partition, join -/
end

/-! ### head, *rest = a list -/
section
variable {prog : Program} {w : World} {A : Around} {E : Value → Shared → Prop} {s : Shared}
end
section
variable {X : Cx} {pos p : Pos} {e : Expr} {es : List Expr} {tg ts : List Nat} {g : D → Sx → Option Sx} {gs : List D → Sx → Option Sx}
def sStar1 (gs : List D → Sx → Option Sx) : D → Sx → Option Sx := fun d S => match d with
  | .list (d :: ds) => gs [d, .list ds] S
  | _ => none
end
end Fu

set_option maxHeartbeats 4000000
/-! sorted(it, key=f) where the keys may hold lists, over any source -/
namespace SrtL
open PySem PySem.W PySem.Calls PyProof.Rows
variable {pg : Program} {wd : World} {A : Around} {E : Value → Shared → Prop} {s : Shared} {l kL : Addr} {rv : Bool} {us : List Value} {z1 : Nat} {Pf : PySem.Fin → Shared → Prop} {kds : List PyData}
/-- a turn: f(x) tells the key k; the lists that it reads stood in h1 -/
def Tells (J : Shared → Prop) (h1 : Heap) (k : PyData) (s1 : Shared) (u : Value) (s2 : Shared) : Prop :=
  J s2 ∧ (∀ b o, s1.heap.get? b = some o → s2.heap.get? b = some o) ∧ ∃ as, Reads s2.heap u k as ∧ ∀ x ∈ as, h1.get? x ≠ none
/-- the keys so far -/
def Here (h1 h : Heap) (u : Value) (d : PyData) : Prop := ∃ as, Reads h u d as ∧ alike d d = true ∧ ∀ x ∈ as, h1.get? x ≠ none
theorem Here.keeps {h1 h h' : Heap} {u : Value} {d : PyData} (k : ∀ b o, h.get? b = some o → h'.get? b = some o) (q : Here h1 h u d) : Here h1 h' u d := by
  obtain ⟨as, r, e, m⟩ := q
  exact ⟨as, PyProof.Rows.Reads.keeps k r, e, m⟩
theorem rest {f : Value} {h1 : Heap} (J : Shared → Prop) (hJ : ∀ t g n, J t → J { t with heap := g, toks := n }) (hj : J s)
    (kp : KeepsBut l h1 s.heap) (n1 : h1.get? kL = none) (n2 : s.heap.get? kL = some (seqObj "list" #[] 0)) (n3 : s.heap.get? l = some (seqObj "list" #[] z1)) (ne : kL ≠ l)
    (len : kds.length = us.length) (few : us.length ≤ sizeLine) (al : AllAlike kds) (so : Sortable kds) (un : ∀ d, d ∈ kds → A.units + d.depth < cLine)
    (turn : ∀ (i : Nat) (v : Value) (k : PyData), us[i]? = some v → kds[i]? = some k → ∀ t : Shared, J t → KeepsBut l h1 t.heap → wpAny (model pg wd) A (call f [v]) (Tells J h1 k t) (fun _ _ => False) t)
    (fin : ∀ (t : Shared) out c, J t → KeepsBut l h1 t.heap → t.heap.get? l = some (seqObj "list" (List.toArray out) c) → KeyedOut rv kds us out → Pf (.done (.ret .none)) t) :
    wpAny (model pg wd) A (ksk_rest l f rv us.toArray z1 (.ref kL)) Pf E s := by
  unfold ksk_rest
  refine wpAny_bind (wpAny_rule ?_)
  first | rw [List.forIn_toArray] | (rw [← Array.forIn_toList]; simp only [List.toList_toArray])
  let St : Nat → Shared → Prop := fun i t => ∃ (kA : Array Value) (n : Nat), J t ∧ KeepsBut l h1 t.heap ∧ t.heap.get? kL = some (seqObj "list" kA n) ∧ t.heap.get? l = some (seqObj "list" #[] z1) ∧ EachIs (Here h1 t.heap) kA.toList (kds.take i)
  have st0 : St 0 s := ⟨#[], 0, hj, kp, n2, n3, by rw [List.take_zero]; exact EachIs.nil⟩
  refine wpAny_bind (ksk_fold St us 0 s st0 ?go ?done)
  case go =>
    rintro j x t hx ⟨kA, n, hjt, kpt, m2, m3, hk⟩
    simp only [Nat.zero_add] at hk ⊢
    have hj' : j < us.length := (List.getElem?_eq_some_iff.mp hx).1
    obtain ⟨d, hd⟩ : ∃ d, kds[j]? = some d := ⟨_, List.getElem?_eq_getElem (by omega)⟩
    have dd : alike d d = true := al d (List.mem_of_getElem? hd) d (List.mem_of_getElem? hd)
    have small : kA.size ≤ us.length := by
      have e1 := hk.length
      simp only [Array.length_toList, List.length_take] at e1
      omega
    refine wpAny_bind (wpAny_attempt (wpAny_mono (turn j x d hx hd t hjt kpt) (fun v t2 he => ?_) fun _ _ no => no.elim))
    obtain ⟨j2, kp2, as, rd, old⟩ := he
    have p2 : t2.heap.get? kL = some (seqObj "list" kA n) := kp2 _ _ m2
    have p3 : t2.heap.get? l = some (seqObj "list" #[] z1) := kp2 _ _ m3
    have sb := Heap.SameBut.update t2.heap kL (Obj.mapSeq (·.push v))
    obtain ⟨n', hn'⟩ : ∃ n', (t2.heap.update kL (Obj.mapSeq (·.push v))).get? kL = some (seqObj "list" (kA.push v) n') := ⟨_, get?_update_seq p2 (·.push v)⟩
    refine wpAny_bind (listUpdate_at p2 rfl ?_ (Nat.le_trans small few) (by rw [Array.size_push]; exact Nat.succ_le_succ (Nat.le_trans small few)))
    have ok : ∀ (u : Value) (e : PyData), Here h1 t2.heap u e → Here h1 (t2.heap.update kL (Obj.mapSeq (·.push v))) u e := fun u e ⟨bs, r, q, m⟩ =>
      ⟨bs, Reads.keepBut (a := kL) (fun b o nb eb => (sb.2 b nb).trans eb) (fun o eb => by rw [p2] at eb; cases eb; rfl) e u bs q r (fun z => m kL z n1), q, m⟩
    have stepKp : KeepsBut l h1 (t2.heap.update kL (Obj.mapSeq (·.push v))) := (kpt.trans_all kp2).same sb (.inr n1)
    have each : EachIs (Here h1 (t2.heap.update kL (Obj.mapSeq (·.push v)))) (kA.push v).toList (kds.take (j + 1)) := by
      have e1 : kds.take (j + 1) = kds.take j ++ [d] := by rw [List.take_add_one, hd]; rfl
      rw [e1, Array.toList_push]
      exact each_snoc (ok v d ⟨as, rd, dd, old⟩) (hk.mono fun u e q => ok u e (q.keeps kp2))
    exact wpAny_pure ⟨rfl, kA.push v, n', hJ _ _ _ j2, stepKp, hn', (sb.2 l ne.symm).trans p3, each⟩
  case done =>
    rintro t ⟨kA, n, hjt, kpt, m2, m3, hk⟩
    have all : kds.take (0 + us.length) = kds := List.take_of_length_le (by omega)
    rw [all] at hk
    have hk2 : EachIs (fun v k => ∃ as, Reads t.heap v k as) kA.toList kds := hk.mono fun v k ⟨as, q, _⟩ => ⟨as, q⟩
    have sz : kA.size = us.length := by
      have e1 := hk2.length
      simp only [Array.length_toList] at e1
      omega
    refine wpAny_bind (listItems_at m2 rfl ?_)
    refine keyH_end (κ := dataKind t.heap kds) (h₁ := h1) kpt n1 m2 m3 ne (SortsAt.data (s := t) hk2 al so un) sz few fun h3 tk3 c k3 n4 => ?_
    exact fin _ _ c (hJ _ _ _ hjt) k3 n4 ⟨t.heap, kA.toList, al, rfl, hk2⟩
theorem tree {f : Value} {n : Nat} (J : Shared → Prop) (hJ : ∀ t g n, J t → J { t with heap := g, toks := n }) (hj : J s) (at_ : s.heap.get? l = some (seqObj "list" us.toArray n))
    (len : kds.length = us.length) (few : us.length ≤ sizeLine) (al : AllAlike kds) (so : Sortable kds) (un : ∀ d, d ∈ kds → A.units + d.depth < cLine)
    (turn : ∀ (i : Nat) (v : Value) (k : PyData), us[i]? = some v → kds[i]? = some k → ∀ t : Shared, J t → KeepsBut l s.heap t.heap → wpAny (model pg wd) A (call f [v]) (Tells J s.heap k t) (fun _ _ => False) t)
    (fin : ∀ (t : Shared) out c, J t → KeepsBut l s.heap t.heap → t.heap.get? l = some (seqObj "list" (List.toArray out) c) → KeyedOut rv kds us out → Pf (.done (.ret .none)) t) :
    wpAny (model pg wd) A (ksk_tree l f rv) Pf E s := by
  have lt : l < s.heap.objs.size := Heap.lt_size at_
  let h2 := s.heap.update l (Obj.mapSeq fun _ => (#[] : Array Value))
  obtain ⟨q1, hq1⟩ : ∃ q1, h2.get? l = some (seqObj "list" #[] q1) := ⟨_, get?_update_seq at_ fun _ => #[]⟩
  have sz2 : (h2.push (seqObj "tuple" us.toArray 0)).objs.size = s.heap.objs.size + 1 := by
    show ((s.heap.update l _).push _).objs.size = _
    rw [size_push', Heap.size_update]
  unfold ksk_tree
  refine wpAny_bind (listItems_at at_ rfl ?_)
  refine wpAny_bind (listUpdate_at at_ rfl ?_ (by simpa using few) (Nat.zero_le _))
  refine wpAny_bind (seqEpoch_at hq1 rfl ?_)
  refine wpAny_bind (wpAny_newTuple ?_ (by simpa using few))
  refine wpAny_bind (wpAny_newList ?_ (Nat.zero_le _))
  refine wpAny_holding ?_
  have kp : KeepsBut l s.heap (sortingHeap s.heap l us) := fun b o nb q => sortingHeap_old nb q
  exact rest (h1 := s.heap) (kL := (h2.push (seqObj "tuple" us.toArray 0)).objs.size) (s := { s with heap := (h2.push (seqObj "tuple" us.toArray 0)).push (seqObj "list" #[] 0) }) J hJ (hJ _ _ _ hj)
    kp (Heap.get?_none_of_le (by rw [sz2]; exact Nat.le_succ _)) (Heap.get?_push_size _ rfl) (Heap.get?_push_of_some _ (Heap.get?_push_of_some _ hq1)) (by rw [sz2]; exact Nat.ne_of_gt (Nat.lt_succ_of_lt lt)) len few al so un turn fin
/-- sorted(it, key=f), it: any source of KdlSrc -/
theorem sortedSrc {T : String} {r d : Addr} {n : Nat} {P : Nat → Value → Prop} {OK : Heap → Prop} {f : Value} {kw : List (Str × Value)} {Q : Value → Shared → Prop} (S : KdlSrc pg wd T r d n P OK) (hh : A.handled = none) (ok : OK s.heap) (few : n ≤ sizeLine)
    (J : Shared → Prop) (hJ : ∀ t g n, J t → J { t with heap := g, toks := n }) (hj : J s) (len : kds.length = n) (al : AllAlike kds) (so : Sortable kds) (un : ∀ x, x ∈ kds → A.units + 2 + x.depth < cLine)
    (a1 : argsOk "sorted" ⟨[.ref r], kw⟩) (a2 : ∀ x, argsOk "list.sort" ⟨[.ref x], kw⟩) (ht : ∀ x, Builtin.«list.sort» ⟨[.ref x], kw⟩ = ksk_tree x f rv)
    (turn : ∀ (i : Nat) (v : Value) (k : PyData), P i v → kds[i]? = some k → ∀ t : Shared, J t → (∀ b o, s.heap.get? b = some o → t.heap.get? b = some o) → wpAny (model pg wd) A.in1.in1 (call f [v]) (Tells J s.heap k t) (fun _ _ => False) t)
    (fin : ∀ (t : Shared) us out c p, J t → (∀ b o, s.heap.get? b = some o → t.heap.get? b = some o) → s.heap.get? p = none → t.heap.get? p = some (seqObj "list" (List.toArray out) c) → us.length = n → (∀ i v, us[i]? = some v → P i v) → KeyedOut rv kds us out → Q (.ref p) t) :
    wpAny (model pg wd) A (call (.builtin "sorted") [.ref r] kw) Q E s := by
  refine call_function_entry_kw kind_sorted plain_sorted entry_sorted a1 ?_
  unfold Builtin.«sorted»
  refine wpAny_bind (m := checkCount "sorted" 1 1 _) (wpAny_pure ?_)
  refine wpAny_bind (kdu_collect S hh ok few fun g tk acc kg items => ?_)
  have ne : acc.toList.length = n := by rw [Array.length_toList]; exact items.1
  refine wpAny_bind (wpAny_newList ?_ (by rw [ne]; exact few))
  have at_ : (g.push (seqObj "list" acc.toList.toArray 0)).get? g.objs.size = some (seqObj "list" acc.toList.toArray 0) := Heap.get?_push_size _ rfl
  have fresh : ∀ b o, s.heap.get? b = some o → b ≠ g.objs.size := fun b o e => Nat.ne_of_lt (Heap.lt_size (kg b o e))
  have kp : ∀ {h : Heap}, KeepsBut g.objs.size (g.push (seqObj "list" acc.toList.toArray 0)) h → ∀ b o, s.heap.get? b = some o → h.get? b = some o := fun {h} k b o e => k b o (fresh b o e) (Heap.get?_push_of_some _ (kg b o e))
  refine wpAny_bind (wpAny_holding (wpAny_call_entry_kw slot_list_sort ⟨_, at_, rfl⟩ entry_list_sort ?body (a2 _)))
  case body =>
    show wpAny (model pg wd) A.in1.in1 (Builtin.«list.sort» ⟨[.ref g.objs.size], kw⟩) _ _ _
    rw [ht]
    refine tree (us := acc.toList) (kds := kds) (s := { s with heap := g.push (seqObj "list" acc.toList.toArray 0), toks := tk }) J hJ (hJ _ _ _ hj) at_ (by rw [ne]; exact len) (by rw [ne]; exact few) al so (fun d hd => by have := un d hd; exact this) (fun i v k hv hk t jt kt => ?_) fun t out c jt kt ho ko => ?_
    · refine wpAny_mono (turn i v k (items.2 i v (by simpa using hv)) hk t jt (kp kt)) (fun u t2 q => ?_) fun _ _ q => q
      obtain ⟨q1, q2, as, q3, q4⟩ := q
      exact ⟨q1, q2, as, q3, fun x hx z => by
        cases e : s.heap.get? x with
        | none => exact q4 x hx e
        | some o => rw [Heap.get?_push_of_some _ (kg _ _ e)] at z; cases z⟩
    · exact ⟨.none, rfl, wpAny_pure ⟨_, rfl, fin t acc.toList out c g.objs.size jt (kp kt) (by
        cases e : s.heap.get? g.objs.size with
        | none => rfl
        | some o => exact absurd rfl (fresh _ o e)) ho ne (fun i v hv => items.2 i v (by simpa using hv)) ko⟩⟩
end SrtL

set_option maxHeartbeats 4000000
/-! a lambda of one parameter: (-len(ends), ends) -/
namespace SrtL
open PySem PySem.W PySem.Calls PyProof.Rows PySem.Spec
abbrev lamA (p : Pos) : Arguments := { posonlyargs := [], args := [{ arg := "ends", annotation := none, pos := p : Arg }], vararg := none, kwonlyargs := [], kw_defaults := [], kwarg := none, defaults := [] : Arguments }
abbrev lamB (p1 p2 p3 p4 p5 p6 : Pos) : Expr := .Tuple [.UnaryOp .USub (.Call (.Name "len" p1) [.Name "ends" p2] [] p3) p4, .Name "ends" p5] 0 p6
abbrev lamS : Scope := { kind := .function, names := [("ends", .local), ("len", .globalImplicit)], isGenerator := false, isCoroutine := false, more := [] : Scope }
section
variable {pg : Program} {wd : World} {A : Around} {E : Value → Shared → Prop} {t : Shared} {mg mb : Str → Option Value}
theorem lamTurn {f c' b : Addr} {q : Str} {pm ctv : Value} {its : List Value} {p p1 p2 p3 p4 p5 p6 : Pos} {Q : Value → Shared → Prop} (room : A.depth < recursionLimit)
    (hf : t.heap.get? f = some (kla_obj "<lambda>" q (lamA p) (lamB p1 p2 p3 p4 p5 p6) lamS [] pm c' ctv)) (hc : t.heap.CodeRec (.ref c') q) (hg : t.heap.Ns mainGlobals mg) (hb : t.heap.Ns builtinsNs mb) (hm : mg "len" = none) (hl : mb "len" = some (.builtin "len")) (lim : t.heap.NoLimit)
    (at_ : t.heap.IsList b its.toArray) (few : its.length ≤ sizeLine)
    (post : ∀ (r : Addr) (g : Heap) (tk : Nat) (z : Tok), (∀ b o, t.heap.get? b = some o → g.get? b = some o) → PyProof.Rows.IsTup g r #[Value.int (-(its.length : Int)) z, Value.ref b] → Q (.ref r) { t with heap := g, toks := tk }) :
    wpAny (model pg wd) A (call (.ref f) [.ref b]) Q E t := by
  refine wpAny_call (kla_callFunE room hf rfl rfl rfl rfl hc ?_)
  rw [show bindArgs (kla_fn "<lambda>" q (lamA p) (lamB p1 p2 p3 p4 p5 p6) lamS [] pm (.ref c') ctv) ⟨[Value.ref b], []⟩ = pure [(("ends" : Str), Value.ref b)] from rfl]
  refine wpAny_pure (wpAny_newFunctionEnv (show ∀ x ∈ lamS.names, x.2 ≠ .cell by decide) (by intro x hx; simp at hx; subst hx; rfl) (fun g hns hsb => ⟨lim.fresh _ hsb, ?_⟩) rfl)
  have kp : ∀ b o, t.heap.get? b = some o → g.get? b = some o := fun b o e => hsb.extBut b o (Nat.ne_of_lt (Heap.lt_size e)) (Heap.get?_push_of_some _ e)
  have loc : g.Ns t.heap.objs.size fun x => [(("ends" : Str), Value.ref b)].reverse.lookup x := hns
  have nm : ∀ {M : Model} {A' : Around} {E' : Value → Shared → Prop} {u : Shared} {e : Env} {pos : Pos} {Q' : Value → Shared → Prop}, e.scope = lamS → e.locals = t.heap.objs.size → u.heap.Ns t.heap.objs.size (fun x => [(("ends" : Str), Value.ref b)].reverse.lookup x) → Q' (.ref b) u → wpAny M A' (eval (.Name "ends" pos) e) Q' E' u := by
    intro M A' E' u e pos Q' e1 e2 e3 q
    refine wpAny_Name (wpAny_loadName_local (by rw [e1]) (by show e.scope.names.lookup _ = _; rw [e1]; rfl) (by rw [e2]; exact e3) rfl q) (by decide)
  refine kla_codeExpr ?_
  refine wpAny_Tuple_spliced ?_
  refine Calls.spliced_cons (wpAny_UnaryOp (wpAny_Call_Name_kw (Calls.Name_function_global rfl rfl (Calls.loadGlobal_builtin (hg.keeps kp) hm (hb.keeps kp) hl ?_) (by decide))))
  refine PyProof.Rows.callWith_builtin1 ?_ rfl rfl
  refine Calls.spliced_cons (nm rfl rfl loc (Calls.spliced_nil ?_))
  refine call_len_list (items := its.toArray) (let ⟨o, ho, r⟩ := at_; ⟨o, kp _ _ ho, r⟩) (by
    rw [List.size_toArray]
    have : (sizeLine : Int) < 2 ^ 63 := by decide
    omega) ?_
  refine neg_int ?_
  refine Calls.spliced_cons (nm rfl rfl loc (Calls.spliced_nil ⟨show 2 ≤ sizeLine by decide, ?_⟩))
  refine post _ _ _ _ (fun b o e => Heap.get?_push_of_some _ (kp b o e)) ⟨_, Heap.get?_push_size _ rfl, rfl, _, rfl⟩
end
end SrtL

set_option maxHeartbeats 4000000
/-! sorted(d.values(), key=lambda ends: (-len(ends), ends)) -/
namespace SrtL
open PySem PySem.Spec PyProof.Rows L2
section
variable {X : Cx} {pins : List (Addr × Obj)} {σ : L2.St} {H : Hp} {s : Shared}
theorem pinned {v : Addr} {o : Obj} (I : Inv X pins σ H s) (h : s.heap.get? v = some o) (n : H v = none) (l : v ≠ X.env.locals) (f : v ∉ X.fs) (nc : ∀ u, o.data ≠ .cell u) : Inv X ((v, o) :: pins) σ H s :=
  ⟨I.ok, I.os, I.bare, I.base, I.loc, I.cell, I.free, I.freeC, fun p hp => by
    rcases List.mem_append.mp hp with q | q
    · exact I.pin p (List.mem_append_left _ q)
    · rcases List.mem_cons.mp q with q | q
      · subst q; exact ⟨h, n, l, f, nc⟩
      · exact I.pin p (List.mem_append_right _ q), I.hok, I.len⟩
theorem unpinned {p : Addr × Obj} (I : Inv X (p :: pins) σ H s) : Inv X pins σ H s :=
  ⟨I.ok, I.os, I.bare, I.base, I.loc, I.cell, I.free, I.freeC, fun q hq => I.pin q (by
    rcases List.mem_append.mp hq with z | z
    · exact List.mem_append_left _ z
    · exact List.mem_append_right _ (List.mem_cons_of_mem _ z)), I.hok, I.len⟩
theorem obj_there {P : Program} {w : World} {H : Hp} {h : Heap} {a : Addr} {o : HO} (x : ObjOk P w H h a o) : ∃ u, h.get? a = some u := by
  cases o with
  | lst xs => obtain ⟨_, _, _, _, e⟩ := x; exact ⟨_, e⟩
  | tup xs => obtain ⟨_, _, _, o, e, _⟩ := x; exact ⟨_, e⟩
  | dK kvs => obtain ⟨_, _, _, _, o, _, _, e, _⟩ := x; exact ⟨_, e⟩
  | dT kvs => obtain ⟨_, _, _, _, o, _, _, e, _⟩ := x; exact ⟨_, e⟩
  | set S n => obtain ⟨o, _, _, _, e, _⟩ := x; exact ⟨_, e⟩
  | ins C dx fs => obtain ⟨_, _, _, e, _⟩ := x; exact ⟨_, e⟩
  | own y => exact x
  | xd fs => obtain ⟨_, ⟨_, _, _, e, _⟩, _⟩ := x; exact ⟨_, e⟩
  | rng lo hi => obtain ⟨_, _, _, e⟩ := x; exact ⟨_, e⟩
  | frz ob u => obtain ⟨e, _⟩ := x; exact ⟨_, e⟩
  | tbl ps => exact ⟨_, show h.get? a = some _ from x⟩
  | met f y => exact ⟨_, show h.get? a = some _ from x⟩
  | ext φ => obtain ⟨_, e, _⟩ := x; exact e
/-- a new object that is tracked, at a place that was free -/
theorem laidF {t : Shared} {p : Addr} {o : HO} (I : Inv X pins σ H s) (os : t.os = s.os) (bare : AllBare t.gens) (k : ∀ b u, s.heap.get? b = some u → t.heap.get? b = some u) (fr : s.heap.get? p = none) (new : ObjOk X.prog X.w (upd H p o) t.heap p o) : Inv X pins σ (upd H p o) t ∧ H p = none := by
  have hn : H p = none := by
    cases q : H p with
    | none => rfl
    | some u => obtain ⟨z, e⟩ := obj_there (I.hok p u q); rw [fr] at e; cases e
  have np : ∀ b u, s.heap.get? b = some u → b ≠ p := fun b u e z => by subst z; rw [fr] at e; cases e
  have hok : HOk X.prog X.w (upd H p o) t.heap := fun b u e => by
    by_cases hb : b = p
    · subst hb; rw [upd_same] at e; cases e; exact new
    · rw [upd_ne hb] at e
      exact (I.hok b u e).stay (fun c v _ q => k c v q) (fun c q => by rw [upd_ne (ne_of_none q hn)]; exact q) fun c xs q => by rw [upd_ne (ne_of_none q hn)]; exact q
  refine ⟨I.call' (ch := []) os ⟨fun b u e _ _ _ => k b u e, fun b u e _ _ _ => ⟨u.slots, k b u e⟩, fun b u e n _ => by rw [upd_ne (np b u e)]; exact n, fun b u e _ => ⟨u, k b u e⟩, fun b xs q => by rw [upd_ne (ne_of_none q hn)]; exact q, fun b ob u q => by rw [upd_ne (ne_of_none q hn)]; exact q, fun b ps q => ⟨#[], by rw [upd_ne (ne_of_none q hn), q]; simp⟩⟩ hok bare (fun b z => nomatch z), hn⟩
end
def keyD (g : List PyData) : PyData := .tuple [.int (-(g.length : Int)), .list g]
def groupSort (vs : List V) (gs : List (List PyData)) : List V := ((vs.zip gs).mergeSort (PySem.W.dataLe false fun q : V × List PyData => keyD q.2)).map (·.1)
/-- v: a list that reads as g -/
def GrpV (K : PySem.W.Frag) (H : Hp) (v : V) (g : List PyData) : Prop := ∃ b xs, v = .ref b ∧ H b = some (.lst xs) ∧ Fu.Rps K H xs g ∧ PyData.canLayAll0 g = true
def tSortV [Fu.TabsC] (K : PySem.W.Frag) (i : Nat) : TE := fun σ H Q => ∃ (a : Addr) (kvs : List (Key × V)) (gs : List (List PyData)), σ[i]? = some (some (.ref a)) ∧ H a = some (.dK kvs) ∧ LamX.Tabs Fu.TabsC.T H ∧ Paired (GrpV K H) (kvs.map (·.2)) gs ∧
  PySem.W.AllAlike (gs.map keyD) ∧ PySem.W.Sortable (gs.map keyD) ∧ (∀ g ∈ gs, (keyD g).depth ≤ 20) ∧
  ∀ H1, Fu.SameT H H1 → ∀ p, H1 p = none → Q (.ref p) (upd H1 p (.lst (groupSort (kvs.map (·.2)) gs)))
theorem paired_at {α β : Type} {R : α → β → Prop} : ∀ {as : List α} {bs : List β} {i : Nat} {b : β}, Paired R as bs → bs[i]? = some b → ∃ a, as[i]? = some a ∧ R a b
  | _, _, _, _, .nil, e => by simp at e
  | _ :: _, _ :: _, 0, _, .cons r _, e => by simp at e; subst e; exact ⟨_, rfl, r⟩
  | _ :: _, _ :: _, i + 1, _, .cons _ t, e => by obtain ⟨a, h, r⟩ := paired_at t (i := i) (by simpa using e); exact ⟨a, by simpa using h, r⟩

section
variable [Fu.TabsC] {X : Cx} {pins : List (Addr × Obj)} {σ : L2.St} {H : Hp} {s : Shared}
/-- a lambda is made: all that was tracked is tracked still, but its table may have grown -/
theorem lamMake {c P : Addr} {ar : Arguments} {bd : Expr} {sc : Scope} {pos : Pos} {E Q : Value → Shared → Prop} (I : Inv X pins σ H s) (TB : LamX.TabB X.base X.mg c P) (hc : X.env.code = .ref c)
    (mem : (P, X.env.qual ++ "<lambda>") ∈ Fu.TabsC.T) (one : ∀ p ∈ Fu.TabsC.T, p.1 = P → p.2 = X.env.qual ++ "<lambda>") (tb : LamX.Tabs Fu.TabsC.T H) (df : defaultsOf ar X.env = ([], [])) (fr : ∀ y ∈ sc.names, y.2 = .free → ∃ c, X.env.cells.lookup y.1 = some c)
    (go : ∀ (f c' : Addr) (pm ctv : Value) (H1 : Hp) (t : Shared), Inv X pins σ H1 t → Fu.SameT H H1 → t.heap.get? f = some (PySem.W.kla_obj "<lambda>" (X.env.qual ++ "<lambda>") ar bd sc (cloFrom X.env.cells sc.names []) pm c' ctv) → H1 c' = some (LamX.CodeO c' (X.env.qual ++ "<lambda>")) → Q (.ref f) t) :
    wpAny (model X.prog X.w) X.A (eval (.Lambda ar bd sc pos) X.env) Q E s := by
  obtain ⟨ps, atP, tri, known⟩ := tb _ mem
  have heapP : s.heap.get? P = some { cls := .none, data := .fields ps } := I.hok P _ atP
  have bAt := TB.bm.keeps I.bk
  have glob := I.mod.glob.keeps I.bk
  have codeP := TB.code.keeps I.bk
  refine PySem.W.kla_eval df ?_
  cases hit : codeAmong pos ps.toList with
  | some cv =>
    obtain ⟨c', rfl, hco⟩ := known pos cv hit
    exact PySem.W.kla_makeFunctionHit (c := c) (P := P) (ps := ps) (closure_ok fr) I.ok.glob glob hc codeP heapP tri hit bAt fun ctv g tk keep _ =>
      go g.objs.size c' _ ctv H _ (I.kept fun b o e => Heap.get?_push_of_some _ (keep b o e)) (Fu.SameT.refl H) (Heap.get?_push_size _ rfl) hco
  | none =>
    refine PySem.W.kla_makeFunction (c := c) (P := P) (ps := ps) (closure_ok fr) I.ok.glob glob hc codeP heapP tri hit TB.gP bAt fun c' ctv g tk keep ge lt rec' grown => ?_
    obtain ⟨c2, oc, ws, z, e2, hoc, hd, hv⟩ := rec'
    cases e2
    have nC : H c' = none := I.hok.fresh ge
    have nPC : P ≠ c' := ne_of_none atP nC
    let H1 : Hp := upd (upd H P (.tbl (ps ++ #[rawInt pos.line, rawInt pos.col, .ref c']))) c' (LamX.CodeO c' (X.env.qual ++ "<lambda>"))
    have I1 := LamX.inv_table (t' := tk) (more := #[rawInt pos.line, rawInt pos.col, .ref c']) (h' := g.push (PySem.W.kla_obj "<lambda>" (X.env.qual ++ "<lambda>") ar bd sc (cloFrom X.env.cells sc.names []) ((X.mg "__name__").getD .none) c' ctv)) I atP
      (fun b o nb e => Heap.get?_push_of_some _ (keep b o nb e)) (Heap.get?_push_of_some _ grown) ge ⟨oc, ws, z, Heap.get?_push_of_some _ hoc, hd, hv⟩
    have stay : ∀ b o, H b = some o → Fu.NT o → H1 b = some o := fun b o e n => by
      have h1 : b ≠ c' := ne_of_none e nC
      have h2 : b ≠ P := fun q => by rw [q, atP] at e; cases e; exact n
      show upd _ c' _ b = _
      rw [upd_ne h1, upd_ne h2]
      exact e
    have eL : (ps ++ #[rawInt pos.line, rawInt pos.col, .ref c']).toList = ps.toList ++ [rawInt pos.line, rawInt pos.col, .ref c'] := by simp
    refine go g.objs.size c' _ ctv H1 _ I1 ⟨stay, fun _ p hp => ?_, fun b o e => ?_⟩ (Heap.get?_push_size _ rfl) upd_same
    · by_cases hb : p.1 = P
      · rw [one p hp hb, hb]
        refine ⟨_, (upd_ne nPC).trans upd_same, by rw [eL]; exact PySem.TriplesOk_snoc _ _ _ _ tri, fun q cv hq => ?_⟩
        rw [eL] at hq
        rcases LamX.among_app _ tri hq with y | y
        · obtain ⟨c0, e1, e2⟩ := known q cv y
          exact ⟨c0, e1, stay _ _ e2 trivial⟩
        · exact ⟨c', y, upd_same⟩
      · obtain ⟨qs, a1, a2, a3⟩ := tb p hp
        refine ⟨qs, ?_, a2, fun q cv hq => ?_⟩
        · show upd _ c' _ p.1 = _
          rw [upd_ne (ne_of_none a1 nC), upd_ne hb]
          exact a1
        · obtain ⟨c0, e1, e2⟩ := a3 q cv hq
          exact ⟨c0, e1, stay _ _ e2 trivial⟩
    · by_cases hb : b = P
      · subst hb
        exact ⟨_, (upd_ne nPC).trans upd_same⟩
      · exact ⟨o, by show upd _ c' _ b = _; rw [upd_ne (ne_of_none e nC), upd_ne hb]; exact e⟩
end
theorem each_of {α β : Type} {R : α → β → Prop} : ∀ {as : List α} {bs : List β}, Paired R as bs → PySem.W.EachIs R as bs
  | _, _, .nil => .nil
  | _, _, .cons r t => .cons r (each_of t)
theorem each_vals2 {β : Type} : ∀ {ps : List (V × β)} {us : List Value}, PySem.W.EachIs (fun (v : Value) (b : V × β) => RelV b.1 v) us ps → Vals (ps.map (·.1)) us
  | [], _, .nil => .nil
  | _ :: _, _, .cons r t => .cons r (each_vals2 t)
theorem reads_in {h : Heap} {v : Value} {d : PyData} {as : List Addr} (r : Reads h v d as) : ∀ a ∈ as, h.get? a ≠ none :=
  Reads.rec (motive_1 := fun _ _ as _ => ∀ a ∈ as, h.get? a ≠ none) (motive_2 := fun _ _ as _ => ∀ a ∈ as, h.get? a ≠ none)
    (by simp) (fun _ => by simp) (fun _ _ => by simp) (fun _ _ => by simp)
    (fun e _ _ _ ih => by
      intro a ha
      rcases List.mem_cons.mp ha with z | z
      · subst z; rw [e]; exact Option.some_ne_none _
      · exact ih a z)
    (fun _ _ _ _ ih => ih)
    (fun e _ _ _ _ i1 i2 => by
      intro a ha
      rcases List.mem_append.mp ha with z | z
      · rcases List.mem_cons.mp z with z | z
        · subst z; rw [e]; exact Option.some_ne_none _
        · exact i1 a z
      · exact i2 a z)
    (by simp)
    (fun _ _ i1 i2 => by
      intro a ha
      rcases List.mem_append.mp ha with z | z
      · exact i1 a z
      · exact i2 a z) r
theorem zip_pair {α β γ : Type} {R : γ → α → Prop} : ∀ {as : List α} {bs : List β} {us : List γ}, us.length = as.length → as.length = bs.length → (∀ (i : Nat) a u, as[i]? = some a → us[i]? = some u → R u a) → Paired (fun u (q : α × β) => R u q.1) us (as.zip bs)
  | [], _, [], _, _, _ => .nil
  | [], _, _ :: _, e, _, _ => by simp at e
  | _ :: _, [], _, _, e, _ => by simp at e
  | _ :: _, _ :: _, [], e, _, _ => by simp at e
  | a :: as, b :: bs, u :: us, e, e2, f => .cons (f 0 a u rfl rfl) (zip_pair (by simpa using e) (by simpa using e2) fun i a' u' h1 h2 => f (i + 1) a' u' (by simpa using h1) (by simpa using h2))
section
variable [Fu.TabsC] {X : Cx}
theorem pe_sortV {c P : Addr} {k i : Nat} {y : Str} {p py apos cpos pa p1 p2 p3 p4 p5 p6 lpos kpos pos : Pos} (hr : Room k X.A) (hg : Gl X "sorted") (hm : X.mg "sorted" = none) (hml : X.mg "len" = none) (TB : LamX.TabB X.base X.mg c P) (hcode : X.env.code = .ref c)
    (hmT : (P, X.env.qual ++ "<lambda>") ∈ Fu.TabsC.T) (hu : ∀ p ∈ Fu.TabsC.T, p.1 = P → p.2 = X.env.qual ++ "<lambda>") (hN : X.N[i]? = some y) (hv : Vis X.env.scope y) (hd : (y == ("__debug__" : Str)) = false := by decide) (hcd : (y == ("__classdict__" : Str)) = false := by decide)
    (hbase : attributeBase (.Name y py) "values" X.env (eval (.Name y py) X.env) = eval (.Name y py) X.env := by rfl) (hline : (apos.endLine == cpos.line) = true := by rfl) :
    PE X (.Call (.Name "sorted" p) [.Call (.Attribute (.Name y py) "values" apos) [] [] cpos] [⟨some "key", .Lambda (lamA pa) (lamB p1 p2 p3 p4 p5 p6) lamS lpos, kpos⟩] pos) (tSortV X.K i) := by
  refine ⟨fun pins s σ H Q I h => ?_⟩
  obtain ⟨a, kvs, gs, ea, hH, tb, gr, al, so, dp, q⟩ := h
  refine wpAny_Call_Name_kw (ld_blt I hg hm (u := .builtin "sorted") (by decide +kernel) ?_ (by decide) (by decide))
  refine PyProof.Rows.callWith_kw (kws := [⟨some "key", .Lambda (lamA pa) (lamB p1 p2 p3 p4 p5 p6) lamS lpos, kpos⟩]) ?_ rfl rfl rfl rfl
  refine Calls.spliced_cons (wpAny_Call_method hbase (by rfl) hline PySem.F.plainAttrs_dict PySem.F.slot_dict_values PySem.F.type_dict_values (thn ((pe_var (pos := py) hN hv hd hcd).run pins s σ H (fun v H1 => v = .ref a ∧ H1 = H) I ⟨_, ea, rfl, rfl⟩) fun u s1 ⟨v, H1, I1, r1, ev, eH⟩ => ?_))
  subst ev
  rw [eH] at I1
  obtain rfl : u = Value.ref a := r1
  obtain ⟨t1, t2, hsm⟩ := isD_at I1 (.inl ⟨kvs, .inl hH⟩)
  obtain ⟨_, _, vs, rel, dd⟩ := dk_of I1.hok hH
  obtain ⟨es, ep, raw, _, _⟩ := dd.raw
  refine ⟨t1, t2, Calls.callWith_builtin rfl (PySem.evalArgs_none ?_)⟩
  refine call_meetsIn PySem.F.slot_dict_values t1 PySem.F.entry_dict_values (PySem.F.args_dict_values_1 _) (meets_dict_values_raw a hsm) ⟨⟨es, ep, raw⟩, ?_⟩
  have I2 : Inv X ((s1.heap.objs.size, { cls := .type "dict_values", data := .fields #[.ref a] }) :: pins) σ H { s1 with heap := s1.heap.push { cls := .type "dict_values", data := .fields #[.ref a] } } :=
    pinned (I1.kept (t' := s1.toks) fun b o e => Heap.get?_push_of_some _ e) (Heap.get?_push_size _ rfl) (I1.hok.fresh (Nat.le_refl _)) (Nat.ne_of_gt I1.lt) (I1.nofs (Nat.le_refl _)) (fun u z => by cases z)
  have nofree : ∀ y ∈ lamS.names, y.2 = .free → ∃ c, X.env.cells.lookup y.1 = some c := fun y hy e => by
    have : ∀ y ∈ lamS.names, y.2 ≠ .free := by decide
    exact absurd e (this y hy)
  refine Calls.spliced_nil ?_
  show wpAny _ _ (evalAll ((do let v ← eval (.Lambda (lamA pa) (lamB p1 p2 p3 p4 p5 p6) lamS lpos) X.env; standAt pos; pure v) :: [])) _ _ _
  refine wpAny_evalAll_cons (wpAny_bind (lamMake I2 TB hcode hmT hu tb rfl nofree fun f c' pm ctv H1 s3 I3 eN hf hco => wpAny_bind (wpAny_standAt (wpAny_pure (wpAny_evalAll_nil ?_)))))
  show wpAny _ _ (call (.builtin "sorted") [.ref s1.heap.objs.size] [(Str.ofString "key", .ref f)]) _ _ s3
  have hview : s3.heap.get? s1.heap.objs.size = some { cls := .type "dict_values", data := .fields #[.ref a] } := (I3.pin _ (List.mem_append_right _ List.mem_cons_self)).1
  obtain ⟨z3, hsm3, vs3, rel3, dd3⟩ := dk_of I3.hok (eN.old _ _ hH trivial)
  obtain ⟨es3, ep3, raw3, sz3, at3⟩ := dd3.raw
  have lenK : kvs.length = gs.length := by have := gr.length; rwa [List.length_map] at this
  have lenE : es3.size = gs.length := by rw [sz3, ← rel3.length, lenK]
  have item : ∀ (j : Nat) (v : Value) (g : List PyData), (∃ hi : j < es3.size, v = es3[j].val) → gs[j]? = some g → ∃ b xs, v = .ref b ∧ (kvs.map (·.2))[j]? = some (V.ref b) ∧ H1 b = some (.lst xs) ∧ Fu.Rps X.K H1 xs g ∧ PyData.canLayAll0 g = true := by
    intro j v g ⟨hi, ev⟩ eg
    obtain ⟨w, e1, b, xs, rfl, hb, rp, cl⟩ := paired_at gr eg
    rw [List.getElem?_map] at e1
    obtain ⟨⟨kk, w'⟩, e2, e3⟩ := Option.map_eq_some_iff.mp e1
    simp only at e3
    subst e3
    have hj : j < vs3.length := by rw [← sz3]; exact hi
    obtain ⟨⟨k3, u3⟩, e4⟩ : ∃ q, vs3[j]? = some q := ⟨_, List.getElem?_eq_getElem hj⟩
    obtain ⟨x, e5, _, r5⟩ := paired_at rel3 e4
    rw [e2] at e5
    cases e5
    obtain rfl : u3 = Value.ref b := r5
    exact ⟨b, xs, ev.trans (at3 j hi _ _ e4).2, by rw [List.getElem?_map, e2]; rfl, eN.old _ _ hb trivial, Fu.Rps.mono eN _ _ rp, cl⟩
  have bld : ∃ mb, s3.heap.Ns builtinsNs mb ∧ mb "len" = some (.builtin "len") := by
    obtain ⟨mb, h1, h2⟩ := I3.mod.blt
    exact ⟨mb, h1.keeps I3.bk, (h2 "len" (by decide)).trans (by decide +kernel)⟩
  obtain ⟨mb, hb1, hb2⟩ := bld
  have code : s3.heap.CodeRec (.ref c') (X.env.qual ++ "<lambda>") := by
    obtain ⟨⟨oc, ws, t, e1, e2, e3⟩, _, _⟩ := I3.hok c' _ hco
    exact ⟨c', oc, ws, t, rfl, e1, e2, e3⟩
  have hsz : gs.length ≤ sizeLine := by rw [← lenK]; exact z3
  have hun := hr.un
  have hdp := hr.dp
  refine sortedSrc (T := "dict_values") (rv := false) (kds := gs.map keyD) (f := .ref f) (PySem.KdlSrc.rawValues (r := s1.heap.objs.size) (d := a) (es := es3) (ep := ep3)) hr.hd ⟨⟨_, hview, rfl, rfl⟩, raw3⟩ (by rw [lenE]; exact hsz)
    (fun t => t.os = s3.os ∧ AllBare t.gens) (fun _ _ _ j => j) ⟨rfl, I3.bare⟩ (by rw [List.length_map, lenE]) al so (fun x hx => ?_) (PyProof.Rows.ksk_s1 _ _) (fun x => PyProof.Rows.ksk_l1 _ _) (fun x => PyProof.Rows.ksk_t1 f x) (fun j v kd hP hk t jt kt => ?_) fun t us out cc r jt kt fr ho len at_ ko => ?_
  · obtain ⟨g, hg', rfl⟩ := List.mem_map.mp hx
    have := dp g hg'
    omega
  · rw [List.getElem?_map] at hk
    obtain ⟨g, eg, rfl⟩ := Option.map_eq_some_iff.mp hk
    obtain ⟨b, xs, rfl, _, hb, rp, cl⟩ := item j v g hP eg
    obtain ⟨zb, its, n, rv, hl⟩ := I3.hok b _ hb
    have lx : its.length = g.length := by rw [← rv.length, rp.length]
    obtain ⟨as, rd⟩ := Dp.reads I3 (.list g) (.ref b) (.ref b) (Fu.Rp.dp (.list g) _ (by simpa [PyData.canLay0] using cl) (.lst hb rp (by rw [← rp.length]; exact zb))) rfl
    refine lamTurn (c' := c') (mg := X.mg) (mb := mb) (its := its) (by show X.A.depth < _; omega) (kt _ _ hf) (code.keeps kt) ((I3.mod.glob.keeps I3.bk).keeps kt) (hb1.keeps kt) hml hb2 (I3.nolimit.keeps kt) ⟨_, kt _ _ hl, rfl, n, rfl⟩ (by rw [← rv.length]; exact zb) fun r g' tk z kg ht => ?_
    obtain ⟨o, e1, e2, n', e3⟩ := ht
    refine ⟨jt, kg, [] ++ (as ++ []), Reads.tuple e1 e2 e3 (.cons (by rw [lx]; exact .int _ _) (.cons (PyProof.Rows.Reads.keeps (fun b o e => kg b o (kt b o e)) rd) .nil)), fun x hx => ?_⟩
    exact reads_in rd x (by simpa using hx)
  · have pv : Paired (fun (v : Value) (q : V × List PyData) => RelV q.1 v) us ((kvs.map (·.2)).zip gs) := by
      refine zip_pair (R := fun (u : Value) (w : V) => RelV w u) (as := kvs.map (·.2)) (bs := gs) (us := us) (by rw [len, lenE, List.length_map, lenK]) (by rw [List.length_map, lenK]) fun j w u e1 e2 => ?_
      have hj : j < gs.length := by rw [← lenE, ← len]; exact (List.getElem?_eq_some_iff.mp e2).1
      obtain ⟨b, xs, rfl, e3, _⟩ := item j u gs[j] (at_ j u e2) (List.getElem?_eq_getElem hj)
      rw [e1] at e3
      cases e3
      exact rfl
    have eo := PySem.W.keyedOut_each (fun q : V × List PyData => keyD q.2) (bs := (kvs.map (·.2)).zip gs) (by
      rw [show ((kvs.map (·.2)).zip gs).map (fun q : V × List PyData => keyD q.2) = gs.map keyD from ?_]
      · exact ko
      · rw [show (fun q : V × List PyData => keyD q.2) = keyD ∘ Prod.snd from rfl, ← List.map_map, List.map_snd_zip]
        simp [lenK]) (each_of pv)
    have vo : Vals (groupSort (kvs.map (·.2)) gs) out := each_vals2 eo
    have zo : (groupSort (kvs.map (·.2)) gs).length ≤ sizeLine := by
      unfold groupSort
      rw [List.length_map, List.length_mergeSort, List.length_zip, List.length_map]
      omega
    obtain ⟨I4, hn⟩ := laidF (o := .lst (groupSort (kvs.map (·.2)) gs)) I3 jt.1 jt.2 kt fr ⟨zo, out, cc, vo, ho⟩
    exact ⟨.ref r, _, unpinned I4, rfl, q H1 eN r hn⟩
end
end SrtL

set_option maxHeartbeats 4000000
/-! a dict of own lists: {}, d.setdefault(k, []).append(x), sorted(d.values(), key=..) -/
namespace Fu
open PySem PySem.Spec PyProof.Rows L2
variable [TabsC]
def keyOf : D → Option Key
  | .str x => some (.inr x)
  | .int n => some (.inl n)
  | _ => none
def valR (kvs : List (Key × R)) (k : Key) : Option R := (kvs.find? fun kv => decide (kv.1 = k)).map (·.2)
def putR (kvs : List (Key × R)) (k : Key) (r : R) : List (Key × R) :=
  if (kvs.any fun kv => decide (kv.1 = k)) = true then kvs.map (fun kv => if kv.1 = k then (kv.1, r) else kv) else kvs ++ [(k, r)]
section
variable {K : PySem.W.Frag} {A : List Addr} {F : Hp}
theorem pair_val (k : Key) : ∀ {vs : List (Key × V)} {kvs : List (Key × R)}, PairR K A F vs kvs → (valR kvs k = none → valV vs k = none) ∧ ∀ r, valR kvs k = some r → ∃ v, valV vs k = some v ∧ Rr K A F v r
  | _, _, .nil => ⟨fun _ => rfl, fun r e => by cases e⟩
  | (k1, v) :: vs, (k2, r) :: kvs, .cons ⟨e, h⟩ t => by
    have e : k1 = k2 := e
    subst e
    obtain ⟨i1, i2⟩ := pair_val k t
    by_cases hk : k1 = k
    · refine ⟨fun e => by simp [valR, List.find?_cons, hk] at e, fun q e => ⟨v, by simp [valV, List.find?_cons, hk], ?_⟩⟩
      simp [valR, List.find?_cons, hk] at e
      subst e
      exact h
    · have e1 : valR ((k1, r) :: kvs) k = valR kvs k := by simp [valR, List.find?_cons, hk]
      have e2 : valV ((k1, v) :: vs) k = valV vs k := by simp [valV, List.find?_cons, hk]
      rw [e1, e2]
      exact ⟨i1, i2⟩
theorem pair_any (k : Key) : ∀ {vs : List (Key × V)} {kvs : List (Key × R)}, PairR K A F vs kvs → (vs.any fun kv => decide (kv.1 = k)) = (kvs.any fun kv => decide (kv.1 = k))
  | _, _, .nil => rfl
  | (k1, v) :: vs, (k2, r) :: kvs, .cons ⟨e, h⟩ t => by
    have e : k1 = k2 := e
    subst e
    simp only [List.any_cons, pair_any k t]
theorem pair_repl (k : Key) {v : V} {r : R} (h : Rr K A F v r) : ∀ {vs : List (Key × V)} {kvs : List (Key × R)}, PairR K A F vs kvs → PairR K A F (vs.map fun kv => if kv.1 = k then (kv.1, v) else kv) (kvs.map fun kv => if kv.1 = k then (kv.1, r) else kv)
  | _, _, .nil => .nil
  | (k1, _) :: vs, (k2, _) :: kvs, .cons ⟨e, g⟩ t => by
    have e : k1 = k2 := e
    subst e
    simp only [List.map_cons]
    by_cases hk : k1 = k
    · rw [if_pos hk, if_pos hk]; exact .cons ⟨rfl, h⟩ (pair_repl k h t)
    · rw [if_neg hk, if_neg hk]; exact .cons ⟨rfl, g⟩ (pair_repl k h t)
theorem pair_put (k : Key) {v : V} {r : R} (h : Rr K A F v r) {vs : List (Key × V)} {kvs : List (Key × R)} (t : PairR K A F vs kvs) : PairR K A F (putK vs k v) (putR kvs k r) := by
  unfold putK putR
  rw [pair_any k t]
  split
  · exact pair_repl k h t
  · exact t.snoc ⟨rfl, h⟩
theorem key_of {v : V} {d : D} {k : Key} (h : keyOf d = some k) (r : Rp K F v d) : v = kV k := by
  cases d with
  | str x => cases h; cases r; rfl
  | int n => cases h; cases r; rfl
  | none => cases h
  | bool b => cases h
  | list xs => cases h
  | tuple xs => cases h
  | dict kvs => cases h
end
def gSetdApp (i e : Nat) (gk : M D) : M D := fun S => match S.sl[i]? with
  | some (some (.own j0)) => match S.os[j0]? with
    | some (some (.dR _)) => (gk S).bind fun p => (keyOf p.1).bind fun k => match p.2.sl[i]?, p.2.sl[e]? with
      | some (some (.own j)), some (some (.dat d)) => match p.2.os[j]? with
        | some (some (.dR kvs)) => if kvs.length < sizeLine then match valR kvs k with
          | some (.own m) => (cellOf p.2 m).bind fun cs => if cs.length < sizeLine then some (.none, setCell p.2 m (cs ++ [d])) else none
          | none => some (.none, ⟨p.2.sl, ((p.2.os ++ [some (Cell.lst [])]).set j (some (Cell.dR (putR kvs k (.own p.2.os.length))))).set p.2.os.length (some (Cell.lst [d]))⟩)
          | _ => none
          else none
        | _ => none
      | _, _ => none
    | _ => none
  | _ => none
def qDict0 (i : Nat) : Sx → Option Out := fun S => some (.nx ⟨S.sl.set i (some (.own S.os.length)), S.os ++ [some (.dR [])]⟩)
section
variable {X : Cx} {P : Hp → Prop} {pos pd py pz pl ap1 ap2 cp1 cp2 : Pos} {ek : Expr} {gk : M D} {y z : Str}
theorem s_dict0 {x : Str} {pos' : Pos} (i : Nat) (hN : X.N.Nodup) (hx : Loc X.env.scope x := by first | exact Or.inl rfl | exact Or.inr rfl) (hi : X.N[i]? = some x := by rfl) (hs : swapsWith (.Dict [] [] pd) (some (.Name x pos')) pos.line X.env = pure false := by rfl)
    (hf : X.fn x = true ∨ X.env.scope.names.lookup x = some .local := by first | exact .inl rfl | exact .inr rfl | assumption) : GS X P (.Assign [.Name x pos'] (.Dict [] [] pd) pos) (qDict0 i) := by
  refine ⟨_, ps_set hN hi hx pe_dnewK hs hf, fun B A0 A F H S σ o E hP s p k e post => ?_⟩
  cases e
  intro q hq
  have k2 := k.cellNew (o := .dK []) (c := .dR []) hq trivial ⟨[], upd_same, .nil⟩
  exact post _ F _ _ s (p.trans (List.prefix_append _ _)) (k2.setOwn (j := S.os.length) (by rw [k.alen]; simp))
theorem e_setdApp (i e : Nat) (hk : GE X ek gk) (hN : X.N[i]? = some y := by rfl) (hNz : X.N[e]? = some z := by rfl) (hv : Vis X.env.scope y := by first | exact Or.inl rfl | exact Or.inr (Or.inl rfl) | exact Or.inr (Or.inr rfl)) (hvz : Vis X.env.scope z := by first | exact Or.inl rfl | exact Or.inr (Or.inl rfl) | exact Or.inr (Or.inr rfl))
    (hdy : (y == ("__debug__" : Str)) = false := by decide) (hcy : (y == ("__classdict__" : Str)) = false := by decide) (hdz : (z == ("__debug__" : Str)) = false := by decide) (hcz : (z == ("__classdict__" : Str)) = false := by decide)
    (m2 : M2 X (.Name y py) "setdefault" ap1 ek (.List [] pl) cp1 := by exact ⟨rfl, rfl, rfl, rfl⟩)
    (hbase : attributeBase (.Call (.Attribute (.Name y py) "setdefault" ap1) [ek, .List [] pl] [] cp1) "append" X.env (eval (.Call (.Attribute (.Name y py) "setdefault" ap1) [ek, .List [] pl] [] cp1) X.env) = eval (.Call (.Attribute (.Name y py) "setdefault" ap1) [ek, .List [] pl] [] cp1) X.env := by rfl)
    (hline : (ap2.endLine == cp2.line) = true := by rfl) : GE X (.Call (.Attribute (.Call (.Attribute (.Name y py) "setdefault" ap1) [ek, .List [] pl] [] cp1) "append" ap2) [.Name z pz] [] cp2) (gSetdApp i e gk) := by
  obtain ⟨tk, pk, rk⟩ := hk.ex
  refine ⟨_, pe_bm PySem.F.plainAttrs_list PySem.F.slot_list_append PySem.F.type_list_append mt_append (pe_dsetd (pe_var hN hv hdy hcy) pk (pe_lst pa_nil) m2) (pa_cons (pe_var hNz hvz hdz hcz) pa_nil) hbase (by rfl) hline (by rfl) (by rfl), fun A F H S σ d S' Q k h post => ?_⟩
  unfold gSetdApp at h
  split at h
  case h_2 => cases h
  rename_i j0 ej0
  split at h
  case h_2 => cases h
  rename_i kv0 ec0
  obtain ⟨⟨kd, S1⟩, e1, h⟩ := bind_inv h
  obtain ⟨ky, e2, h⟩ := bind_inv h
  simp only at h
  split at h
  case h_2 => cases h
  rename_i j dd ej ed
  split at h
  case h_2 => cases h
  rename_i kvs ec
  split at h
  case isFalse => cases h
  rename_i hlt
  obtain ⟨a, ha0, ev⟩ := k.oslot i j0 ej0
  obtain ⟨a', ha0', _, vs0, hH0, _⟩ := k.cell _ _ ec0
  rw [ha0] at ha0'; cases ha0'
  refine ⟨.ref a, ev, a, rfl, .inl ⟨_, .inl hH0⟩, rk A F H S σ kd S1 _ k e1 fun A1 F1 H1 v p1 s1 k1 r1 => ⟨Nat.zero_le _, fun p hp => ?_⟩⟩
  obtain ⟨a2, ha, ev2⟩ := k1.oslot i j ej
  rw [ev] at ev2; cases ev2
  obtain ⟨a3, ha3, fa, vs, hH, pr⟩ := k1.cell _ _ ec
  rw [ha] at ha3; cases ha3
  obtain ⟨w, ew, rw'⟩ := k1.slot e dd ed
  have hap : a ≠ p := ne_of_none hH hp
  have fp : F1 p = none := k1.sub.none hp
  obtain ⟨q1, q2⟩ := pair_val ky pr
  refine ⟨vs, ky, (upd_ne hap).trans hH, key_of e2 r1, by rw [pr.length]; exact hlt, fun u hu => ?_, fun hn => ?_⟩
  · split at h
    · rename_i m em
      obtain ⟨cs, e3, h⟩ := bind_inv h
      split at h
      case isFalse => cases h
      rename_i hcl
      cases h
      obtain ⟨u', eu, ru⟩ := q2 _ em
      rw [hu] at eu; cases eu
      cases ru with
      | own hb =>
        rename_i b
        obtain ⟨us, ecm, fb, hHb, rb, hz⟩ := cell_at k1 e3 hb
        have hbp : b ≠ p := ne_of_none hHb hp
        have hHb' : (upd H1 p (.lst [])) b = some (.lst us) := (upd_ne hbp).trans hHb
        have sF : SameT F1 (upd F1 p (.lst [])) := same_upd fp
        have k2 := k1.laid (o := .lst []) hp
        refine ⟨.inl ⟨rfl, _, SqL.of hHb'⟩, w, ew, b, us, w, rfl, rfl, hHb', by rw [rb.length]; exact hcl, ?_⟩
        exact post A1 _ _ _ p1 (s1.trans sF) (k2.cellSet ecm hb trivial ⟨us ++ [w], upd_same, (Rps.mono sF _ _ rb).append (.cons (rw'.mono sF _ _) .nil), by rw [List.length_append]; exact hcl⟩) .non
    · rename_i em
      rw [q1 em] at hu; cases hu
    · cases h
  · split at h
    · rename_i m em
      obtain ⟨u', eu, _⟩ := q2 _ em
      rw [hn] at eu; cases eu
    · cases h
      have hpA : (A1 ++ [p])[S1.os.length]? = some p := by rw [k1.alen]; simp
      have k2 := k1.cellNew (o := .lst []) (c := .lst []) hp trivial ⟨[], upd_same, .nil, Nat.zero_le _⟩
      have hjl : j < S1.os.length := (List.getElem?_eq_some_iff.mp ec).1
      have k3 := k2.cellSet (j := j) (c := .dR kvs) (o := .dK (putK vs ky (.ref p))) (c' := .dR (putR kvs ky (.own S1.os.length))) (by show (S1.os ++ [some (Cell.lst [])])[j]? = _; rw [List.getElem?_append_left hjl]; exact ec) (pre_at (List.prefix_append _ _) ha) trivial
        ⟨_, upd_same, pair_put ky (.own hpA) (paired_mono (List.prefix_append _ _) (SameT.refl _) pr)⟩
      have k4 := k3.cellSet (j := S1.os.length) (c := .lst []) (o := .lst ([] ++ [w])) (c' := .lst [dd]) (by
        show ((S1.os ++ [some (Cell.lst [])]).set j _)[S1.os.length]? = _
        rw [List.getElem?_set_ne (Nat.ne_of_lt hjl)]
        simp) hpA trivial ⟨_, upd_same, .cons rw' .nil, by show 1 ≤ sizeLine; decide⟩
      have hpp : (upd (upd H1 p (.lst [])) a (.dK (putK vs ky (.ref p)))) p = some (.lst []) := (upd_ne (Ne.symm hap)).trans upd_same
      refine ⟨.inl ⟨rfl, _, SqL.of hpp⟩, w, ew, p, [], w, rfl, rfl, hpp, by decide, ?_⟩
      exact post _ F1 _ _ (p1.trans (List.prefix_append _ _)) s1 k4 .non
    · cases h
/-! ### sorted(d.values(), key=lambda ends: (-len(ends), ends)) -/
def grpsOf (S : Sx) : List (Key × R) → Option (List (List D))
  | [] => some []
  | (_, .own m) :: r => (cellOf S m).bind fun c => (grpsOf S r).bind fun gs => some (c :: gs)
  | _ => none
def keyG (g : List D) : D := SrtL.keyD g
def sortG (gs : List (List D)) : List (List D) := gs.mergeSort (PySem.W.dataLe false keyG)
def wiped (S : Sx) : Sx := ⟨S.sl.map fun _ => none, S.os.map fun _ => none⟩
def gSortV (i : Nat) : M D := fun S => match S.sl[i]? with
  | some (some (.own j)) => match S.os[j]? with
    | some (some (.dR kvs)) => (grpsOf S kvs).bind fun gs => if sortOk (gs.map keyG) = true ∧ gs.length ≤ sizeLine then some (.list ((sortG gs).map .list), wiped S) else none
    | _ => none
  | _ => none
theorem grps_at {K : PySem.W.Frag} {A : List Addr} {F H : Hp} {S : Sx} {σ : L2.St} (k : Ok K A F H S σ) : ∀ {vs : List (Key × V)} {kvs : List (Key × R)} {gs : List (List D)}, PairR K A F vs kvs → grpsOf S kvs = some gs →
    Paired (fun (v : V) (g : List D) => ∃ b xs, v = .ref b ∧ H b = some (.lst xs) ∧ Rps K F xs g ∧ g.length ≤ sizeLine) (vs.map (·.2)) gs
  | [], [], gs, .nil, e => by cases e; exact .nil
  | (k1, v) :: vs, (k2, r) :: kvs, gs, .cons ⟨_, h⟩ t, e => by
    cases r with
    | own m =>
      obtain ⟨c, e1, e⟩ := bind_inv e
      obtain ⟨gs', e2, e⟩ := bind_inv e
      cases e
      have h : Rr K A F v (.own m) := h
      cases h with
      | own ha =>
        obtain ⟨us, _, _, hH, rr, hz⟩ := cell_at k e1 ha
        exact .cons ⟨_, us, rfl, hH, rr, hz⟩ (grps_at k t e2)
    | dat d => cases e
    | scr ns => cases e
    | tup rs => cases e
    | exc c => cases e
theorem Ok.wiped {K : PySem.W.Frag} {A : List Addr} {F H H1 : Hp} {S : Sx} {σ : L2.St} (k : Ok K A F H S σ) (s : SameT H H1) : Ok K A H1 H1 (wiped S) σ where
  sub := Sub.refl H1
  len := by show (S.sl.map _).length = _; rw [List.length_map]; exact k.len
  alen := by show (S.os.map _).length = _; rw [List.length_map]; exact k.alen
  nd := k.nd
  rslot := fun i r h => by
    have h : (S.sl.map fun _ => (none : Option R))[i]? = some (some r) := h
    rw [List.getElem?_map] at h
    obtain ⟨_, _, e⟩ := Option.map_eq_some_iff.mp h
    cases e
  cell := fun i r h => by
    have h : (S.os.map fun _ => (none : Option Cell))[i]? = some (some r) := h
    rw [List.getElem?_map] at h
    obtain ⟨_, _, e⟩ := Option.map_eq_some_iff.mp h
    cases e
  trk := fun a h => by obtain ⟨o, q, l⟩ := k.trk a h; exact ⟨o, s.old _ _ q l.nt, l⟩
  tab := s.tab (k.tab.ext k.sub.same)
theorem zip_mem {α β : Type} {R : α → β → Prop} : ∀ {as : List α} {bs : List β}, Paired R as bs → ∀ p ∈ as.zip bs, R p.1 p.2
  | _, _, .nil, p, h => by cases h
  | _, _, .cons r t, p, h => by
    rcases List.mem_cons.mp h with e | e
    · subst e; exact r
    · exact zip_mem t p e
theorem zip_snd {α β : Type} {R : α → β → Prop} : ∀ {as : List α} {bs : List β}, Paired R as bs → (as.zip bs).map (·.2) = bs
  | _, _, .nil => rfl
  | _, _, .cons r t => by rw [List.zip_cons_cons, List.map_cons, zip_snd t]
theorem n_sortV {c Q : Addr} {n i : Nat} {p pa p1 p2 p3 p4 p5 p6 lpos kpos : Pos} (hr : Room n X.A) (TB : LamX.TabB X.base X.mg c Q) (hcode : X.env.code = .ref c) (hmT : (Q, X.env.qual ++ "<lambda>") ∈ TabsC.T) (hu : ∀ p ∈ TabsC.T, p.1 = Q → p.2 = X.env.qual ++ "<lambda>")
    (hm : X.mg "sorted" = none) (hml : X.mg "len" = none) (hg : Gl X "sorted" := by rfl) (hN : X.N[i]? = some y := by rfl) (hv : Vis X.env.scope y := by first | exact Or.inl rfl | exact Or.inr (Or.inl rfl) | exact Or.inr (Or.inr rfl)) (hd : (y == ("__debug__" : Str)) = false := by decide) (hcd : (y == ("__classdict__" : Str)) = false := by decide)
    (hbase : attributeBase (.Name y py) "values" X.env (eval (.Name y py) X.env) = eval (.Name y py) X.env := by rfl) (hline : (ap1.endLine == cp1.line) = true := by rfl) :
    GN X (.Call (.Name "sorted" p) [.Call (.Attribute (.Name y py) "values" ap1) [] [] cp1] [⟨some "key", .Lambda (SrtL.lamA pa) (SrtL.lamB p1 p2 p3 p4 p5 p6) SrtL.lamS lpos, kpos⟩] pos) (gSortV i) := by
  refine ⟨_, SrtL.pe_sortV hr hg hm hml TB hcode hmT hu hN hv hd hcd hbase hline, fun A F H S σ d S' Q k h post => ?_⟩
  unfold gSortV at h
  split at h
  case h_2 => cases h
  rename_i j ej
  split at h
  case h_2 => cases h
  rename_i kvs ec
  obtain ⟨gs, eg, h⟩ := bind_inv h
  split at h
  case isFalse => cases h
  rename_i hso
  cases h
  obtain ⟨a, ha, ev⟩ := k.oslot i j ej
  obtain ⟨a', ha', _, vs, hH, pr⟩ := k.cell _ _ ec
  rw [ha] at ha'; cases ha'
  have gp := grps_at k pr eg
  obtain ⟨al, so, all⟩ := sortOk_all hso.1
  have lay : ∀ g ∈ gs, (keyG g).depth ≤ 20 ∧ PyData.canLayAll0 g = true := fun g hg => by
    obtain ⟨h1, h2⟩ := all (keyG g) (List.mem_map.mpr ⟨g, hg, rfl⟩)
    exact ⟨h1, by simpa [keyG, SrtL.keyD, PyData.canLay0, PyData.canLayAll0] using h2⟩
  refine ⟨a, vs, gs, ev, hH, k.tab.ext k.sub.same, ?_, al, so, fun g hg => (lay g hg).1, fun H1 s1 p hp => ?_⟩
  · have mem : ∀ {as : List V} {bs : List (List D)}, (∀ g ∈ bs, PyData.canLayAll0 g = true) → Paired (fun (v : V) (g : List D) => ∃ b xs, v = .ref b ∧ H b = some (.lst xs) ∧ Rps X.K F xs g ∧ g.length ≤ sizeLine) as bs → Paired (SrtL.GrpV X.K H) as bs := by
      intro as bs hb h
      induction h with
      | nil => exact .nil
      | cons r t ih =>
        obtain ⟨b, xs, e1, e2, e3, e4⟩ := r
        exact .cons ⟨b, xs, e1, e2, Rps.mono k.sub.same.t _ _ e3, hb _ List.mem_cons_self⟩ (ih fun g hg => hb g (List.mem_cons_of_mem _ hg))
    exact mem (fun g hg => (lay g hg).2) gp
  · have sF : SameT F H1 := k.sub.same.t.trans s1
    have rr : ∀ q ∈ (vs.map (·.2)).zip gs, Rp X.K H1 q.1 (.list q.2) := fun q hq => by
      obtain ⟨b, xs, e1, e2, e3, e4⟩ := zip_mem gp q hq
      rw [e1]
      exact .lst (s1.old _ _ e2 trivial) (Rps.mono sF _ _ e3) e4
    have e2 : (((vs.map (·.2)).zip gs).mergeSort (PySem.W.dataLe false fun q : V × List D => SrtL.keyD q.2)).map (·.2) = sortG gs := by
      have := List.map_mergeSort (s := PySem.W.dataLe false keyG) (r := PySem.W.dataLe false fun q : V × List D => SrtL.keyD q.2) (f := fun q : V × List D => q.2) (l := (vs.map (·.2)).zip gs) (fun a _ b _ => rfl)
      rw [this, zip_snd gp]
      rfl
    have rl : ∀ ps : List (V × List D), (∀ q ∈ ps, Rp X.K H1 q.1 (.list q.2)) → Rps X.K H1 (ps.map (·.1)) ((ps.map (·.2)).map .list) := by
      intro ps
      induction ps with
      | nil => intro _; exact .nil
      | cons q ps ih => intro h; exact .cons (h q List.mem_cons_self) (ih fun z hz => h z (List.mem_cons_of_mem _ hz))
    have r2 := rl (((vs.map (·.2)).zip gs).mergeSort (PySem.W.dataLe false fun q : V × List D => SrtL.keyD q.2)) fun q hq => rr q (List.mem_mergeSort.mp hq)
    rw [e2] at r2
    exact post A H1 H1 p _ _ (List.prefix_refl _) sF (k.wiped s1) hp rfl r2 (by rw [List.length_map]; unfold sortG; rw [List.length_mergeSort]; exact hso.2)
end

/-! ### a def whose code object is known -/
structure FunT (K : PySem.W.Frag) (x : Str) (st : Stmt) (f : Addr) (fd : FuncData) (c : Addr) : Prop where
  ex : ∃ (oc : Value) (od : Option Addr) (kV doc pm : Value) (an : Option Addr) (ct : Value) (osl : Array (Option Value)),
    fd = PySem.W.fnOf x x (defArgs st) (defBody st) (defScope st) .none kV doc pm an (.ref c) ct ∧ K.lookup f = some ⟨oc, od, .func fd, osl⟩ ∧ PySem.W.codeIn K (.ref c) x = true
  kp : PySem.W.keepIn K (.ref f) = true
/-- .. that makes the lambda of table P -/
def DefAtT (K : PySem.W.Frag) (mg : Str → Option Value) (x : Str) (st : Stmt) (ps : List Str) : Prop := ∃ f fd c P, mg x = some (.ref f) ∧ FunT K x st f fd c ∧ L2.Binds K fd ps [] ∧ (c, P) ∈ TabsC.C ∧ (P, x ++ ".<locals>." ++ "<lambda>") ∈ TabsC.T ∧ ∀ p ∈ TabsC.T, p.1 = P → p.2 = x ++ ".<locals>." ++ "<lambda>"
section
variable {P : Program} {w : World} {K : PySem.W.Frag} {mg : Str → Option Value} {base : Heap} {x : Str} {st : Stmt} {N ps : List Str} {k n : Nat} {g : Sx → Option Out}
theorem has_newT (D : DefAtT K mg x st ps) (tabs : ∀ p ∈ TabsC.C, LamX.TabB base mg p.1 p.2) (S : FnScope N ps (defScope st)) (hn : ps.length = n) (hN : n ≤ N.length)
    (body : ∀ (c Q : Addr), LamX.TabB base mg c Q → (Q, x ++ ".<locals>." ++ "<lambda>") ∈ TabsC.T → (∀ p ∈ TabsC.T, p.1 = Q → p.2 = x ++ ".<locals>." ++ "<lambda>") → ∀ (f : Addr) (A : Around) (outer : List Env) (s : Shared) (H : Hp) (E : XK), Room k (A.deeper (envOfC x (defScope st) s.heap.objs.size f (.ref c))) →
      GSs (cxF P w K mg base N x st f (.ref c) A outer s H E) AnyB (defBody st) g) : Has P w K mg base x (k + 1) ps (spN K n (mN N.length g)) := by
  obtain ⟨f, fd, c, Q, hm, F, b, h1, h2, h3⟩ := D
  refine ⟨f, fd, hm, F.kp, b, ?_⟩
  obtain ⟨oc, od, kV, doc, pm, an, ct, osl, rfl, lk, hcd⟩ := F.ex
  refine L2.fn_of lk hcd S (spN_len hn) fun A outer s H vs Q' E hr h => ?_
  obtain ⟨ds, zs, hd, r, e, tb, post⟩ := h
  obtain ⟨t, p, rd⟩ := (body c Q (tabs _ h1) h2 h3 f A outer s H E hr).ex
  refine ⟨t, p.nox, ?_⟩
  obtain ⟨o, e1, e⟩ := bind_inv e
  have hl : vs.length ≤ N.length := by rw [r.length, hd]; exact hN
  refine rd H [] [] H H _ (L2.start N vs) o _ trivial (SameT.refl H) (List.prefix_refl _) (start_dat r hl (Sub.refl H) tb) e1 ?_
  cases o with
  | nx S => cases e
  | rt d S => cases e
  | bk S => cases e
  | ct S => cases e
  | rs r S => cases e
  | ro j S =>
    intro A1 F1 H1 σ1 a s1 p1 k1 ha
    obtain ⟨us, ec, fa, hv, rc, hz⟩ := cell_at k1 e ha
    have := post (lessH H1 a) a us (s1.trans (less_same k1 fa)) (if_pos rfl) (Rps.mono (less_same k1 fa) _ _ rc) hz
    rwa [less_upd hv] at this
end
end Fu

set_option maxHeartbeats 4000000
/-! the end of a law whose defs make lambdas -/
namespace Fu
open PySem PySem.Spec PyProof.Rows L2
/-- the law's call where texts of data are made (guards), with one table -/
theorem law_callGT {P : Program} {w : World} {K : PySem.W.Frag} {mg mb : Str → Option Value} {k : Nat} {fa ad tc tP : Addr} {fd : FuncData} {x : Str} {sp : Sp} {t : Shared} {us : List Value} {ms : List Int}
    (inK : K.In t.heap) (gl : t.heap.Ns mainGlobals mg) (bl : t.heap.Ns builtinsNs mb) (boot : ∀ y : Str, y ≠ "__name__" → mb y = bootBuiltins y) (nol : t.heap.NoLimit) (ng : t.gens = #[])
    (tab : t.heap.get? tP = some { cls := .none, data := .fields #[] }) (noK : K.lookup tP = none) (hd : PySem.W.CodeHd t.heap tc tP)
    (bm : ∃ (b : Addr) (o : Obj), mg "__builtins__" = some (.ref b) ∧ b ≠ builtinsNs ∧ t.heap.get? b = some o ∧ o.cls = .type "module" ∧ o.dict = some builtinsNs ∧ o.data = .plain)
    (scr : t.heap.get? ad = some { cls := .type "list", data := .seq us.toArray }) (isI : IntsAre us ms) (few : ms.length ≤ sizeLine) (rm : Room k callerA)
    (F : ∀ b : Heap, K.In b → b.Ns mainGlobals mg → LamX.TabB b mg tc tP → FnG P w K mg b k fa fd [x] sp) (bd : ∀ (q : Shared) (u : Value), BindsTo q fd ⟨[u], []⟩ [(x, u)])
    (due : ∀ G : Hp, G tP = some (.tbl #[]) → SqL K G ad (ms.map V.int) → sp [.ref ad] G (fun v _ => v = .bl true) fun _ _ _ => False) :
    codeAny (model P w) callerA (.call (.ref fa) ⟨[.ref ad], []⟩) (fun r q => r = .ok (.ret (.bool true)) ∧ OldK t.heap q.heap ∧ q.os = t.os ∧ AllBare q.gens) t := by
  have vals := vals_ints isI
  have size := isI.length
  have ne : ad ≠ tP := fun z => by
    rw [z, tab] at scr
    have y := congrArg Obj.data (Option.some.inj scr)
    cases y
  have main : ∀ G : Hp, G tP = some (.tbl #[]) → (∀ b, G b = none ∨ b = tP ∨ ∃ o xs, G b = some (.frz o (.lst xs))) → SqL K G ad (ms.map V.int) → HOk P w G t.heap → (∀ b, G b ≠ none → b = ad ∨ b = tP) → (G ad ≠ none → K.lookup ad = none) →
      codeAny (model P w) callerA (.call (.ref fa) ⟨[.ref ad], []⟩) (fun r q => r = .ok (.ret (.bool true)) ∧ OldK t.heap q.heap ∧ q.os = t.os ∧ AllBare q.gens) t := by
    intro G gT only sq okG one free
    have put : ∀ {c : Addr} {o : Obj}, t.heap.get? c = some o → G c = none → (hidT t.heap G).get? c = some o := fun a b => hidT_get a b
    have noO : ∀ {c : Addr} {o : Obj}, t.heap.get? c = some o → (∀ vs n, o.data ≠ .seq vs n) → o.data ≠ .fields #[] → G c = none := by
      intro c o h1 h2 h3
      cases z : G c with
      | none => rfl
      | some u =>
        rcases one c (by rw [z]; simp) with y | y
        · subst y
          rw [scr] at h1
          cases h1
          exact (h2 _ _ rfl).elim
        · subst y
          rw [tab] at h1
          cases h1
          exact (h3 rfl).elim
    have noD : ∀ {c : Addr} {o : Obj} {es : Array DictEntry} {ep : Nat}, t.heap.get? c = some o → o.data = .dict es ep → G c = none := fun h1 h2 => noO h1 (fun vs n y => by rw [h2] at y; cases y) fun y => by rw [h2] at y; cases y
    have space : ∀ {c : Addr} {m : Str → Option Value}, t.heap.Ns c m → (hidT t.heap G).Ns c m := by
      rintro c m ⟨o, es, ep, h1, h2, h3⟩
      exact ⟨o, es, ep, put h1 (noD h1 h2), h2, h3⟩
    have inB : K.In (hidT t.heap G) := by
      intro c o h1
      refine put (inK c o h1) ?_
      cases z : G c with
      | none => rfl
      | some u =>
        rcases one c (by rw [z]; simp) with y | y
        · subst y
          rw [free (by rw [z]; simp)] at h1
          cases h1
        · subst y
          rw [noK] at h1
          cases h1
    have md : Mod K mg (hidT t.heap G) := by
      obtain ⟨mc, h1, h2⟩ := nol
      exact ⟨inB, space gl, ⟨mb, space bl, boot⟩, ⟨mc, space h1, h2⟩⟩
    have tb : LamX.TabB (hidT t.heap G) mg tc tP := by
      refine ⟨?_, ?_, fun z => ?_⟩
      · obtain ⟨o, vs, file, tf, flags, tg, inF, text, tt, e1, r1, r2, r3, rest⟩ := hd
        refine ⟨o, vs, file, tf, flags, tg, inF, text, tt, put e1 (noO e1 (fun vs n y => ?_) fun y => ?_), r1, r2, r3, rest⟩
        · rw [r2] at y
          cases y
        · rw [r2] at y
          cases y
          simp at r3
      · obtain ⟨b, o, b1, b2, b3, b4, b5, b6⟩ := bm
        refine ⟨b, o, b1, b2, fun y => ?_, fun y => ?_, put b3 (noO b3 (fun vs n y => ?_) fun y => ?_), b4, b5, b6⟩
        · obtain ⟨o2, es, ep, e1, e2, _⟩ := gl
          rw [y, e1] at b3
          cases b3
          rw [e2] at b6
          cases b6
        · rw [y, tab] at b3
          cases b3
          cases b6
        · rw [b6] at y
          cases y
        · rw [b6] at y
          cases y
      · obtain ⟨o2, es, ep, e1, e2, _⟩ := gl
        rw [z, tab] at e1
        cases e1
        cases e2
    have ev : Env0 P w K mg (hidT t.heap G) callerA [] t G := ⟨rfl, md, fun c o z => of_hidT z, Nat.le_of_eq (hidT_size _ _), trivial, (fun c z => (List.not_mem_nil (show c ∈ ([] : List Addr) from z)).elim), okG, .of_eq ng⟩
    refine codeAny_mono ((F _ inB (space gl) tb).go callerA [] t G ⟨[.ref ad], []⟩ [.ref ad] [.ref ad] _ _ rm rfl ev (bd t (.ref ad)) (.cons rfl .nil) (due G gT sq)) fun z q y => ?_
    cases z with
    | error e => exact (show False from y).elim
    | ok fl =>
      cases fl with
      | ret u =>
        obtain ⟨v, G', osE, bareE, un, okG', rel, vt⟩ := y
        have vt : v = .bl true := vt
        subst vt
        obtain rfl : u = Value.bool true := rel
        have keep : ∀ c o, c ≠ tP → t.heap.get? c = some o → q.heap.get? c = some o := fun c o nc h1 => by
          cases z : G c with
          | none => exact un.keep c o h1 z (fun h => List.not_mem_nil (show c ∈ ([] : List Addr) from h)) (by simp)
          | some u =>
            rcases only c with h2 | h2 | ⟨oc, xs, h2⟩
            · rw [z] at h2; cases h2
            · exact absurd h2 nc
            · have h3 := un.frzs c oc _ h2
              have h4 := (okG c _ h2).1
              have h5 := (okG' c _ h3).1
              rw [h1] at h4
              cases h4
              exact h5
        obtain ⟨more, grown⟩ := un.tbls tP #[] gT
        have gT' : q.heap.get? tP = some { cls := .none, data := .fields (#[] ++ more) } := okG' tP _ grown
        refine ⟨rfl, ⟨fun c o h1 => ?_, fun c o h1 => ?_⟩, osE, bareE⟩
        · by_cases hc : c = tP
          · subst hc
            rw [tab] at h1
            cases h1
            exact .inr (.inl ⟨(hd.tab tab).isCodeTable, rfl, #[], more, rfl, gT'⟩)
          · exact .inl (keep c o hc h1)
        · by_cases hc : c = tP
          · subst hc
            exact ⟨_, gT'⟩
          · exact ⟨o, keep c o hc h1⟩
      | next => exact y.elim
      | cont => exact y.elim
      | brk => exact y.elim
  cases hk : K.lookup ad with
  | some o =>
    have z := inK ad o hk
    rw [scr] at z
    cases z
    refine main (fun c => if c = tP then some (.tbl #[]) else none) (if_pos rfl) (fun c => ?_) (.inr ⟨_, us.toArray, _, hk, rfl, rfl, rfl, by rw [List.size_toArray, size]; exact few, by simpa using vals⟩) (fun c u z => ?_) (fun c z => ?_) fun z => absurd (if_neg ne) z
    · by_cases hc : c = tP
      · exact .inr (.inl hc)
      · exact .inl (if_neg hc)
    · by_cases hc : c = tP
      · have y := (if_pos hc).symm.trans z
        cases y
        rw [hc]
        exact tab
      · have y := (if_neg hc).symm.trans z
        cases y
    · by_cases hc : c = tP
      · exact .inr hc
      · exact absurd (if_neg hc) z
  | none =>
    refine main (fun c => if c = ad then some (.frz { cls := .type "list", data := .seq us.toArray } (.lst (ms.map V.int))) else if c = tP then some (.tbl #[]) else none) ((if_neg ne.symm).trans (if_pos rfl)) (fun c => ?_) (.inl (.inr ⟨{ cls := .type "list", data := .seq us.toArray }, if_pos rfl⟩)) (fun c u z => ?_) (fun c z => ?_) fun _ => hk
    · by_cases hc : c = ad
      · exact .inr (.inr ⟨_, _, if_pos hc⟩)
      · by_cases hc2 : c = tP
        · exact .inr (.inl hc2)
        · exact .inl ((if_neg hc).trans (if_neg hc2))
    · by_cases hc : c = ad
      · have y := (if_pos hc).symm.trans z
        cases y
        subst hc
        exact ⟨scr, by rw [List.length_map]; exact few, us, _, vals, scr⟩
      · have z1 := (if_neg hc).symm.trans z
        by_cases hc2 : c = tP
        · have y := (if_pos hc2).symm.trans z1
          cases y
          rw [hc2]
          exact tab
        · have y := (if_neg hc2).symm.trans z1
          cases y
    · by_cases hc : c = ad
      · exact .inl hc
      · by_cases hc2 : c = tP
        · exact .inr hc2
        · exact absurd ((if_neg hc).trans (if_neg hc2)) z
theorem walk_tabG {l : PySem.W.OpenLaw} {n k : Nat} {q : Program} {loose : List Str} {XP : (Str → Option Value) → Heap → Prop} {YP : World → Heap → Prop} {d : DefRec} {K : Params → PySem.W.Frag} {x y : Str}
    (hn : l.most = some n) (hn2 : n ≤ sizeLine) (hdf : d.params.defaults = []) (hr : Room k callerA) (hY : ∀ (w : World) (h : Heap), YP w h → (K w.params).In h)
    (e1 : ((recsOf q).find? fun e => e.name == y).isSome = true)
    (F : ∀ (w : World) (mg : Str → Option Value) (fa : Addr) (h : Heap), (K w.params).In h → h.Ns mainGlobals mg → mg d.name = some (.ref fa) →
      ∃ (tc tP : Addr) (fd : FuncData) (sp : Sp), PySem.W.tabIn (K w.params) y = some (tc, tP) ∧ (K w.params).lookup tP = none ∧ (∀ (s : Shared) (u : Value), BindsTo s fd ⟨[u], []⟩ [(x, u)]) ∧
        (∀ (H : Hp) (a : Addr) (ns : List Int), ns.length ≤ n → H tP = some (.tbl #[]) → SqL (K w.params) H a (ns.map V.int) → sp [.ref a] H (fun v _ => v = .bl true) fun _ _ _ => False) ∧
        ∀ base : Heap, (K w.params).In base → base.Ns mainGlobals mg → LamX.TabB base mg tc tP → FnG l.prog w (K w.params) mg base k fa fd [x] sp) :
    PySem.W.WalkO q loose XP YP l.row.toRowW d [] (fun f vs => PySem.call f vs) := by
  refine Att.attach_callB hn hdf fun w s0 s1 mg mb fa o pm cd doc a vs ns G Y ho hd hcd hmg hobj hints hlen hbits hg => ?_
  have KX := hY w _ Y
  obtain ⟨tc, tP, fd, sp, t1, t2, hb, hsp, hF⟩ := F w mg fa _ KX G.T.g hmg
  obtain ⟨dd, e3⟩ := Option.isSome_iff_exists.mp e1
  obtain ⟨c1, c2⟩ := PySem.W.tab_of G.T KX e3 t1
  exact law_callGT KX G.T.g G.T.b G.T.builtins G.T.nolimit hg c2 t2 c1 G.T.bmain hobj hints (Nat.le_trans hlen hn2) hr hF hb fun H hH hS => hsp H a ns hlen hH hS
/-- a def's table, from the written part -/
theorem tabIn_mk {K : PySem.W.Frag} {x : Str} {f c P : Addr} {oc oc2 : Value} {od od2 : Option Addr} {fd : FuncData} {osl sl2 : Array (Option Value)} {vs : Array Value} (a : PySem.W.nsIn K mainGlobals x = some (some (.ref f))) (l : K.lookup f = some ⟨oc, od, .func fd, osl⟩) (e : fd.code = .ref c)
    (l2 : K.lookup c = some ⟨oc2, od2, .fields vs, sl2⟩) (v : (vs[11]? : Option Value) = some (.ref P)) : PySem.W.tabIn K x = some (c, P) := by
  unfold PySem.W.tabIn
  rw [a]
  simp only
  rw [l]
  simp only
  rw [e]
  simp only
  rw [l2]
  simp only
  rw [v]
section
variable [TabsC]
def spLawT (K : PySem.W.Frag) (f : List Int → Option D) : Sp := fun vs H Q _ => ∃ a ns, vs = [.ref a] ∧ SqL K H a (ns.map V.int) ∧ ns.length ≤ 63 ∧ f ns = some (.bool true) ∧ LamX.Tabs TabsC.T H ∧ ∀ H', Q (.bl true) H'
variable {P : Program} {w : World} {K : PySem.W.Frag} {mg : Str → Option Value} {base : Heap} {x qual : Str} {st : Stmt} {f : Addr} {fd : FuncData} {N ps : List Str} {k n : Nat} {g : Sx → Option Out}
theorem fn_lawT (F : Fun K x qual st f fd) (S : FnScope N ps (defScope st)) (hn : ps.length = 1) (hN : 1 ≤ N.length)
    (body : ∀ (cdv : Value) (A : Around) (outer : List Env) (s : Shared) (H : Hp) (E : XK), Room k (A.deeper (envOfC qual (defScope st) s.heap.objs.size f cdv)) → GSs (cxF P w K mg base N qual st f cdv A outer s H E) AnyB (defBody st) g) :
    FnOk P w K mg base CX0 (k + 1) f fd ps (spLawT K (mScr N.length g)) := by
  refine F.ok S (fun vs H Q E h => by obtain ⟨a, ns, rfl, _⟩ := h; exact hn.symm) fun cdv A outer s H vs Q E hr h => ?_
  obtain ⟨a, ns, rfl, hs, hz, e, tb, post⟩ := h
  obtain ⟨t, p, rd⟩ := (body cdv A outer s H E hr).ex
  refine ⟨t, p, ?_⟩
  obtain ⟨o, e1, e⟩ := bind_inv e
  refine rd H [] [] H H _ _ o _ trivial (SameT.refl H) (List.prefix_refl _) (start_scr hs hz hN tb) e1 ?_
  cases o with
  | nx S => cases e
  | rt d S =>
    cases e
    intro A1 F1 H1 σ1 v s1 p1 k1 rv
    cases rv
    exact post H1
  | bk S => cases e
  | ct S => cases e
  | rs r S => cases e
  | ro j S => cases e
end
section
variable [TabsC]
variable {P : Program} {w : World} {K : PySem.W.Frag} {mg : Str → Option Value} {base : Heap} {x qual : Str} {st : Stmt} {f : Addr} {fd : FuncData} {N ps : List Str} {k n : Nat} {g : Sx → Option Out}
end
theorem tab_code {K : PySem.W.Frag} {x : Str} {c P f : Addr} {oc : Value} {od : Option Addr} {fd : FuncData} {osl : Array (Option Value)} (h : PySem.W.tabIn K x = some (c, P)) (a : PySem.W.nsIn K mainGlobals x = some (some (.ref f))) (l : K.lookup f = some ⟨oc, od, .func fd, osl⟩) : fd.code = .ref c := by
  unfold PySem.W.tabIn at h
  rw [a] at h
  simp only at h
  rw [l] at h
  simp only at h
  split at h
  · rename_i c' e
    split at h
    · split at h
      · cases h; exact e
      · cases h
    · cases h
  · cases h
theorem funT_mk {K : PySem.W.Frag} {x : Str} {st : Stmt} {f c P : Addr} {oc : Value} {od an : Option Addr} {osl : Array (Option Value)} {kV doc pm cdv ct : Value} (t : PySem.W.tabIn K x = some (c, P)) (a : PySem.W.nsIn K mainGlobals x = some (some (.ref f)))
    (l : K.lookup f = some ⟨oc, od, .func (PySem.W.fnOf x x (defArgs st) (defBody st) (defScope st) .none kV doc pm an cdv ct), osl⟩) (h : PySem.W.codeIn K cdv x = true) (k : PySem.W.keepIn K (.ref f) = true) :
    FunT K x st f (PySem.W.fnOf x x (defArgs st) (defBody st) (defScope st) .none kV doc pm an cdv ct) c := by
  have e : cdv = .ref c := tab_code t a l
  subst e
  exact ⟨⟨oc, od, kV, doc, pm, an, ct, osl, rfl, l, h⟩, k⟩
/-- where no lambda is made -/
instance (priority := low) noTabs : TabsC := ⟨[], []⟩
end Fu

set_option maxHeartbeats 4000000
/-! sorted(set([ints])) -/
namespace SetL
open PySem PySem.Calls PyProof.Rows L2
section
variable {pg : Program} {wd : World} {A : Around} {E : Value → Shared → Prop} {s : Shared}
end
section
variable {pg : Program} {wd : World} {A : Around} {R : Result → Shared → Prop} {I : Addr} {fp wr : List Addr} {G : Array GenState → Array GenState → Prop} {n : Nat} {P : Nat → Value → Prop} {St : Nat → Shared → Prop}
/-- what has come of the first i -/
def Got (w : World) (h : Heap) (a : Addr) (val : Nat → Int) (i : Nat) : Prop := SetR w h a (fun k => (firstMet val i).any (· == k)) (firstMet val i).length
theorem loop (W : WalksS pg wd A.in1 I fp wr G n P St) (a : Addr) (out : a ∉ fp) (val : Nat → Int) (isI : ∀ i v, P i v → ∃ t, v = .int (val i) t) (room : n + 1 < scanBound) :
    ∀ (m i : Nat) (s : Shared), n - i = m → i ≤ n → St i s → Got wd s.heap a val i → (∀ t, Moved (a :: wr) G s t → Got wd t.heap a val n → R (.ok (.ret .none)) t) → codeAny (model pg wd) A (.builtin "set.update.loop" ⟨[.ref a, .ref I], []⟩) R s := by
  have nw : a ∉ wr := fun h => out (W.sub _ h)
  have up : ∀ b ∈ wr, b ∈ a :: wr := fun b hb => List.mem_cons_of_mem _ hb
  intro m
  induction m with
  | zero =>
    intro i s e1 e2 st got fin
    obtain rfl : i = n := by omega
    refine codeAny_builtin PyProof.Rows.F.entry_set_update_loop ?_
    rw [Around.under_plainId PyProof.Rows.F.plain_set_update_loop _]
    show wpAny _ A.in1 (pyNext (.ref I) >>= _) _ _ s
    refine wpAny_bind (W.done s _ _ st fun t mv => ?_)
    show wpAny _ A.in1 (ret Value.none) _ _ t
    exact wpAny_pure (fin t (mv.mono up) (SetR.at got fun o e => mv.heap a o nw e))
  | succ m ih =>
    intro i s e1 e2 st got fin
    have lt : i < n := by omega
    refine codeAny_builtin PyProof.Rows.F.entry_set_update_loop ?_
    rw [Around.under_plainId PyProof.Rows.F.plain_set_update_loop _]
    show wpAny _ A.in1 (pyNext (.ref I) >>= _) _ _ s
    refine wpAny_bind (W.item i s _ _ lt st fun v t hP st2 mv => ?_)
    obtain ⟨tk, rfl⟩ := isI i v hP
    have got2 : Got wd t.heap a val i := SetR.at got fun o e => mv.heap a o nw e
    show wpAny _ A.in1 (holding [Value.int (val i) tk] (setAdd a (.int (val i) tk)) >>= _) _ _ t
    refine wpAny_bind (wpAny_holding ?_)
    unfold setAdd
    refine wpAny_holding ?_
    refine wpAny_bind ((intKind pg wd).pyHash (k := val i) (intKind_is _ _ _ _) ?_)
    have few : (firstMet val i).length + 1 < scanBound := by have := firstMet_length_le val i; omega
    refine setR_add_hashed (P := pg) (s := { t with toks := t.toks + 1 }) got2 few fun g sb r => ?_
    have got3 : Got wd g a val (i + 1) := by
      unfold Got
      have e : (fun k => (firstMet val (i + 1)).any (· == k)) = fun j => (firstMet val i).any (· == j) || decide (j = val i) := by
        funext k
        rw [firstMet_succ, step_any]
      have e' : (firstMet val (i + 1)).length = if (firstMet val i).any (· == val i) = true then (firstMet val i).length else (firstMet val i).length + 1 := by rw [firstMet_succ, step_length]
      rw [e, e']
      exact r
    refine wpAny_pure ⟨plainId_quiet PyProof.Rows.F.plain_set_update_loop _, ih (i + 1) _ (by omega) lt (W.frame _ t _ _ st2 (Nat.le_succ _) fun b hb o e => ?_) got3 fun t2 mv2 got4 => ?_⟩
    · rw [sb.2 b (fun z : b = a => out (z ▸ hb))]; exact e
    · refine fin t2 (Moved.trans W.gtrans ((mv.mono up).then_heap (Nat.le_succ _) fun b o hb e => ?_) mv2) got4
      rw [sb.2 b (fun z : b = a => hb (z ▸ List.mem_cons_self))]; exact e
end
section
variable {pg : Program} {wd : World} {A : Around} {E : Value → Shared → Prop} {s : Shared}
end
end SetL

set_option maxHeartbeats 4000000
/-! set([ints]) with its members, sorted -/
namespace SetL
open PySem PySem.Spec PySem.Calls PyProof.Rows L2
section
variable {X : Cx}
end
end SetL

set_option maxHeartbeats 4000000
/-! sorted(set(xs)), xs fewer than 64 ints -/
namespace Fu
open PySem PySem.Spec PySem.Calls PyProof.Rows L2 SetL
section
variable [TabsC] {X : Cx} {pos p p2 pos2 : Pos} {e : Expr} {gs : M (List D)}
end
end Fu

set_option maxHeartbeats 4000000
/-! sum(lists, []) -/
namespace SumL
open PySem PySem.Calls PyProof.Rows L2
def L1 (h : Heap) (a : Addr) (its : Array Value) : Prop := ∃ n, h.get? a = some { cls := .type "list", data := .seq its n }
theorem L1.at {h g : Heap} {a : Addr} {its : Array Value} (k : L1 h a its) (f : ∀ o, h.get? a = some o → g.get? a = some o) : L1 g a its := k.elim fun n e => ⟨n, f _ e⟩
/-- the first i lists, one behind the other -/
def pre (cs : Nat → Array Value) : Nat → Array Value
  | 0 => #[]
  | i + 1 => pre cs i ++ cs i
section
variable {pg : Program} {wd : World} {A : Around} {R : Result → Shared → Prop} {I : Addr} {fp wr : List Addr} {G : Array GenState → Array GenState → Prop} {n : Nat} {P : Nat → Value → Prop} {St : Nat → Shared → Prop}
theorem loop (W : WalksS pg wd A.in1 I fp wr G n P St) (h₀ : Heap) (cs : Nat → Array Value) (ad : Nat → Addr) (isR : ∀ (i : Nat) (v : Value), P i v → v = Value.ref (ad i)) (hcs : ∀ i, i < n → L1 h₀ (ad i) (cs i)) (room : ∀ i, i < n → (pre cs i).size + (cs i).size ≤ sizeLine)
    (S : Addr) (hSf : S ∉ fp) (hSz : h₀.objs.size ≤ S) (hw0 : ∀ b ∈ wr, h₀.objs.size ≤ b ∧ b < S) (T0 : Addr) (hT0 : L1 h₀ T0 #[]) :
    ∀ (k i : Nat) (s : Shared) (T : Addr) (c : Nat), n - i = k → i ≤ n → St i s → s.heap.get? S = some { cls := .type "list", dict := none, data := .seq #[.ref T] c, slots := #[] } →
    (∀ b o, h₀.get? b = some o → s.heap.get? b = some o) → L1 s.heap T (pre cs i) → T ∉ S :: wr → (i = 0 → T = T0) → (0 < i → h₀.objs.size ≤ T) →
    (∀ s' T', Moved (S :: wr) G s s' → (∀ b o, h₀.get? b = some o → s'.heap.get? b = some o) → L1 s'.heap T' (pre cs n) → (n = 0 → T' = T0) → (0 < n → h₀.objs.size ≤ T') → R (.ok (.ret (.ref T'))) s') →
    codeAny (model pg wd) A (.builtin "sum.loop" ⟨[.ref I, .ref S, rawInt 2, rawInt 0], []⟩) R s := by
  have hSw : S ∉ wr := fun h => hSf (W.sub _ h)
  have hsub : ∀ b ∈ wr, b ∈ S :: wr := fun b hb => List.mem_cons_of_mem _ hb
  have old : ∀ b o, h₀.get? b = some o → b ∉ S :: wr := fun b o e hb => by
    have hlt := Heap.lt_size e
    rcases List.mem_cons.mp hb with rfl | hb
    · exact Nat.not_lt_of_le hSz hlt
    · exact Nat.not_lt_of_le (hw0 b hb).1 hlt
  intro k
  induction k with
  | zero =>
    intro i s T c hk hi hst hS kp hT hTn t0 t1 hR
    have hin : i = n := by omega
    subst hin
    refine codeAny_builtin PySem.F.entry_sum_loop ?_
    rw [Around.under_plainId PySem.F.plain_sum_loop _]
    show wpAny _ A.in1 (seqItems? (.ref S) >>= _) _ _ s
    refine wpAny_bind (wpAny_seqItems hS rfl ?_)
    show wpAny _ A.in1 (tryCatch (pyNext (.ref I)) _ >>= _) _ _ s
    refine wpAny_bind (wpAny_tryCatch (W.done s _ _ hst fun s' hm => ?_))
    exact wpAny_pure (hR s' T (hm.mono hsub) (fun b o e => hm.heap b o (fun z => old b o e (hsub b z)) (kp b o e)) (hT.at fun o e => hm.heap T o (fun z => hTn (hsub _ z)) e) t0 t1)
  | succ k ih =>
    intro i s T c hk hi hst hS kp hT hTn t0 t1 hR
    have hlt : i < n := by omega
    refine codeAny_builtin PySem.F.entry_sum_loop ?_
    rw [Around.under_plainId PySem.F.plain_sum_loop _]
    show wpAny _ A.in1 (seqItems? (.ref S) >>= _) _ _ s
    refine wpAny_bind (wpAny_seqItems hS rfl ?_)
    show wpAny _ A.in1 (tryCatch (pyNext (.ref I)) _ >>= _) _ _ s
    refine wpAny_bind (wpAny_tryCatch (W.item i s _ _ hlt hst fun v s' hP hst' hm => ?_))
    obtain rfl := isR i v hP
    have hS' := hm.heap S _ hSw hS
    have kp' : ∀ b o, h₀.get? b = some o → s'.heap.get? b = some o := fun b o e => hm.heap b o (fun z => old b o e (hsub b z)) (kp b o e)
    obtain ⟨n1, hT'⟩ := hT.at fun o e => hm.heap T o (fun z => hTn (hsub _ z)) e
    obtain ⟨n2, hI'⟩ := (hcs i hlt).at fun o e => kp' _ o e
    show wpAny _ A.in1 ((holding [Value.ref (ad i)] (binaryOp .Add (.ref T) (.ref (ad i)))).attempt >>= _) _ _ _
    refine wpAny_bind (wpAny_attempt (wpAny_holding (PySem.P.add_list hT' hI' ?_ (room i hlt))))
    show wpAny _ A.in1 (updateSeq S (fun _ => #[.ref s'.heap.objs.size]) >>= _) _ _ _
    have hSl : S < s'.heap.objs.size := Heap.lt_size hS'
    have hS1 : (s'.heap.push { cls := .type "list", data := .seq (pre cs i ++ cs i) }).get? S = _ := Heap.get?_push_of_some _ hS'
    refine wpAny_bind (wpAny_updateSeq hS1 rfl ?_)
    have hS₂ := Heap.get?_update_self (Obj.mapSeq fun _ => #[Value.ref s'.heap.objs.size]) hS1 rfl
    refine wpAny_bind (wpAny_letGo ?_)
    have up : ∀ b o, b ≠ S → s'.heap.get? b = some o → (((s'.heap.push { cls := .type "list", data := .seq (pre cs i ++ cs i) }).update S (Obj.mapSeq fun _ => #[Value.ref s'.heap.objs.size])).update S (Obj.mapSeq fun _ => #[Value.ref s'.heap.objs.size])).get? b = some o := fun b o hb e =>
      (Heap.get?_update_other _ _ (fun h : S = b => hb h.symm)).trans ((Heap.get?_update_other _ _ (fun h : S = b => hb h.symm)).trans (Heap.get?_push_of_some _ e))
    have hnew : (((s'.heap.push { cls := .type "list", data := .seq (pre cs i ++ cs i) }).update S (Obj.mapSeq fun _ => #[Value.ref s'.heap.objs.size])).update S (Obj.mapSeq fun _ => #[Value.ref s'.heap.objs.size])).get? s'.heap.objs.size = some { cls := .type "list", data := .seq (pre cs i ++ cs i) } :=
      (Heap.get?_update_other _ _ (fun h : S = _ => Nat.ne_of_lt hSl h)).trans ((Heap.get?_update_other _ _ (fun h : S = _ => Nat.ne_of_lt hSl h)).trans (Heap.get?_push_size _ rfl))
    refine wpAny_bind (wpAny_updateSeq hS₂ rfl (wpAny_pure ⟨plainId_quiet PySem.F.plain_sum_loop _, ih (i + 1) _ s'.heap.objs.size _ (by omega) hlt (W.frame _ s' _ _ hst' (Nat.le_refl _) fun b hb o e => up b o (fun z => hSf (z ▸ hb)) e) (Heap.get?_update_self _ hS₂ rfl) (fun b o e => up b o (fun z => old b o e (z ▸ List.mem_cons_self)) (kp' b o e)) ⟨_, hnew⟩ (fun z => ?_) (fun z => absurd z (Nat.succ_ne_zero _)) (fun _ => Nat.le_of_lt (Nat.lt_of_le_of_lt hSz hSl)) fun s'' T'' hm'' k'' l'' z0 z1 => ?_⟩))
    · rcases List.mem_cons.mp z with z | z
      · exact Nat.ne_of_gt hSl z
      · exact Nat.lt_irrefl _ (Nat.lt_trans hSl (hw0 _ z).2)
    · refine hR s'' T'' (Moved.trans W.gtrans ((hm.mono hsub).then_heap (Nat.le_refl _) fun b o hb e => ?_) hm'') k'' l'' z0 z1
      exact up b o (fun z => hb (z ▸ List.mem_cons_self)) e
end
section
variable {pg : Program} {wd : World} {A : Around} {E : Value → Shared → Prop} {s : Shared}
end
end SumL

set_option maxHeartbeats 4000000
/-! sum(lists, []): the layer's rule -/
namespace Fu
open PySem PySem.Spec PySem.Calls PyProof.Rows L2 SumL
section
variable {X : Cx}
end
/-! the data -/
section
variable [TabsC]
variable {X : Cx} {pos p p2 : Pos} {e : Expr} {es : List Expr} {gs : M (List D)}
end
end Fu

set_option maxHeartbeats 4000000
/-! xs.remove(x) of an own list -/
namespace Fu
open PySem PySem.Spec PyProof.Rows L2
variable [TabsC]
section
variable {X : Cx} {pos py apos : Pos} {e : Expr} {ge : M D} {k : Nat} {y : Str}
end
end Fu

set_option maxHeartbeats 4000000
/-! (a, b) = a tuple or a list -/
namespace Fu
open PySem PySem.Spec PyProof.Rows L2
variable [TabsC]
section
variable {X : Cx} {pos : Pos} {es : List Expr} {gs : List D → Sx → Option Sx} {ts : List Nat} {n : Nat}
end
end Fu

set_option maxHeartbeats 4000000
/-! name = [..] on one line, in a look -/
namespace Fu
open PySem PySem.Spec PyProof.Rows L2
variable [TabsC]
section
variable {X : Cx} {P : Hp → Prop} {ge : M D}
end
end Fu

set_option maxHeartbeats 4000000
/-! {k: v for ..} as an own cell, d.get(k, v), len(d), dict(pairs) -/
namespace Fu
open PySem PySem.Spec PyProof.Rows L2 RZ
variable [TabsC]
abbrev MD := Sx → Option (List (Key × R) × Sx)
section
variable {K : PySem.W.Frag}
end
section
variable {X : Cx} {pos : Pos} {kx vx tg iter : Expr} {ifs : List Expr} {scope : Scope} {gi : M (List D)} {gg : D → Sx → Option Sx} {gt : M Bool} {gk ge : M D} {tgt : List Nat} {P : Hp → Prop}
variable {p py : Pos} {y : Str}
end
end Fu

set_option maxHeartbeats 4000000
/-! dict(pairs), n in d.values() -/
namespace InV
open PySem PySem.Calls PyProof.Rows L2
theorem ci_entry : entryFor table "proto.contains_iter" = some Builtin.«proto.contains_iter» := entryFor_of_tree (by kernel_rfl)
theorem ci_plain : plainId "proto.contains_iter" = true := by decide +kernel
section
variable {pg : Program} {wd : World} {K : Type} [DecidableEq K] {knd : KeyKind pg wd K} {A : Around} {E : Value → Shared → Prop}
theorem loop {R : Result → Shared → Prop} (hh : A.handled = none) (h₀ : Heap) {it d : Addr} {ep : Nat} {kvs : List (K × Value)} (ms : List Int) (n : Int) (tn : Tok) (hit0 : h₀.get? it = none) (hne : d ≠ it)
    (hv : ∀ (i : Nat) (k : K) (v : Value), kvs[i]? = some (k, v) → ∃ m t, ms[i]? = some m ∧ v = .int m t) (hlen : kvs.length = ms.length) :
    ∀ (k i : Nat) (s : Shared), ms.length - i = k → i ≤ ms.length → s.heap.IsValIter it d i kvs.length ep → s.heap.DictAt knd d kvs ep → (∀ b o, h₀.get? b = some o → s.heap.get? b = some o) →
    (∀ h', (∀ b o, h₀.get? b = some o → h'.get? b = some o) → R (.ok (.ret (.bool ((ms.drop i).contains n)))) { s with heap := h' }) →
    codeAny (model pg wd) A (.builtin "proto.contains_iter" ⟨[.ref it, .int n tn], []⟩) R s := by
  intro k
  induction k with
  | zero =>
    intro i s hk hi hst hd kp hR
    have hin : i = ms.length := by omega
    subst hin
    refine codeAny_builtin ci_entry ?_
    rw [Around.under_plainId ci_plain _]
    show wpAny _ A.in1 (pyNext (.ref it) >>= _) _ _ s
    refine wpAny_bind (wpAny_pyNext_values_end (A := A.in1) (by simp [hh]) hst hd (by rw [List.getElem?_eq_none]; omega) fun h' he => ?_)
    have := hR h' fun b o e => he b o (fun z => by subst z; rw [hit0] at e; cases e) (kp b o e)
    rw [List.drop_length] at this
    exact wpAny_bind (wpAny_rule (wpAny_pure this))
  | succ k ih =>
    intro i s hk hi hst hd kp hR
    have hlt : i < ms.length := by omega
    obtain ⟨⟨ky, v⟩, hx⟩ : ∃ p, kvs[i]? = some p := ⟨kvs[i], by simp [hlen, hlt]⟩
    obtain ⟨m, t, em, rfl⟩ := hv i ky v hx
    refine codeAny_builtin ci_entry ?_
    rw [Around.under_plainId ci_plain _]
    show wpAny _ A.in1 (pyNext (.ref it) >>= _) _ _ s
    refine wpAny_bind (wpAny_pyNext_values_item hst hd hx fun h' hit' hs' => ?_)
    refine wpAny_bind (wpAny_eqBool_int ?_)
    have kp' : ∀ b o, h₀.get? b = some o → h'.get? b = some o := fun b o e => hs'.extBut b o (fun z => by subst z; rw [hit0] at e; cases e) (kp b o e)
    have ed : ms.drop i = m :: ms.drop (i + 1) := by
      rw [List.drop_eq_getElem_cons hlt]
      congr 1
      rw [List.getElem?_eq_getElem hlt] at em
      exact Option.some.inj em
    cases hb : (m == n) with
    | true =>
      simp only [if_true]
      refine wpAny_bind (wpAny_rule (wpAny_pure ?_))
      have := hR h' kp'
      rw [ed, List.contains_cons] at this
      have e : n = m := (eq_of_beq hb).symm
      subst e
      simpa using this
    | false =>
      simp only [Bool.false_eq_true, if_false]
      refine wpAny_pure ⟨plainId_quiet ci_plain _, ih (i + 1) _ (by omega) hlt hit' (hd.extBut hs'.extBut hne) kp' fun h'' kp'' => ?_⟩
      have := hR h'' kp''
      rw [ed, List.contains_cons] at this
      have e : (n == m) = false := by
        rw [beq_eq_false_iff_ne] at hb ⊢
        exact fun z => hb z.symm
      rw [e, Bool.false_or] at this
      exact this
end
section
variable {X : Cx}
end
end InV
namespace Fu
open PySem PySem.Spec PyProof.Rows L2 InV
variable [TabsC]
def intVals : List (Key × R) → Option (List Int)
  | [] => some []
  | (_, .dat (.int n)) :: r => (intVals r).bind fun ns => some (n :: ns)
  | _ => none
theorem vals_ints {K : PySem.W.Frag} {A : List Addr} {F : Hp} : ∀ {vs : List (Key × V)} {kvs : List (Key × R)} {ns : List Int}, PairR K A F vs kvs → intVals kvs = some ns → vs.map (·.2) = ns.map V.int
  | _, _, _, .nil, h => by cases h; rfl
  | (k1, v) :: vs, (k2, r) :: kvs, ns, .cons ⟨e, h⟩ t, hi => by
    cases r with
    | dat d =>
      cases d with
      | int n =>
        obtain ⟨ns', h1, h2⟩ := bind_inv hi
        cases h2
        have h : Rr K A F v (.dat (.int n)) := h
        cases h with
        | dat h =>
          cases rp_int_inv h
          rw [List.map_cons, List.map_cons, vals_ints t h1]
      | _ => cases hi
    | _ => cases hi
section
variable {X : Cx} {pos py apos cpos p : Pos} {e e0 : Expr} {ge : M D} {y : Str} {gs : M (List D)}
end
/-! ### dict(pairs) -/
section
variable {X : Cx} {pos p : Pos} {e : Expr} {gs : M (List D)}
end
end Fu

set_option maxHeartbeats 4000000
/-! {k: v} with a number or a text as its key, held as data: what it holds is not told -/
namespace Fu
open PySem PySem.Spec PyProof.Rows L2
variable [TabsC]
section
variable {X : Cx} {e v : Expr} {pos : Pos} {ge gv : M D}
end
end Fu

set_option maxHeartbeats 4000000
/-! sorted(set([texts])) -/
namespace SetS
open PySem PySem.Calls PyProof.Rows L2 PySem.Froz
section
variable {P : Program} {w : World} {h h' : Heap} {a : Addr} {l : List Str}
/-- the set of texts at a, its members l; its table rises and can be walked -/
def SetT (P : Program) (w : World) (h : Heap) (a : Addr) (l : List Str) : Prop := ∃ D : SD, h.get? a = some (sObj "set" D) ∧ TxOk P w D l ∧ l.Nodup ∧ Ris D.2.2.place.toList ∧ (w.params.followText "set-order" = true ∨ D.2.2.led = true)
theorem SetT.at (R : SetT P w h a l) (k : ∀ o, h.get? a = some o → h'.get? a = some o) : SetT P w h' a l := by
  obtain ⟨D, h1, r⟩ := R
  exact ⟨D, k _ h1, r⟩
theorem tail_ris {ep : Nat} {es1 : Array (Int × Value)} {t2 : SetTable} {b : Bool} (r : Ris t2.place.toList) : Ris (tailTx ep es1 t2 b).2.2.place.toList := by
  unfold tailTx
  split
  · exact relayAll_ris _ _ _
  · exact r
theorem tail_led {ep : Nat} {es1 : Array (Int × Value)} {t2 : SetTable} {b : Bool} : (tailTx ep es1 t2 b).2.2.led = t2.led := by
  unfold tailTx
  split
  · exact relayAll_led _ _ _
  · rfl
theorem add_ris {D : SD} {x : Int} {v : Value} (r : Ris D.2.2.place.toList) : Ris (addTx x v D).2.2.place.toList := by
  unfold addTx
  refine tail_ris ?_
  have h1 := layNew_ris D.2.2 D.1 x v r
  split
  · exact h1
  · exact h1
theorem add_led {D : SD} {x : Int} {v : Value} : (addTx x v D).2.2.led = D.2.2.led := by
  unfold addTx
  refine tail_led.trans ?_
  have h1 := layNew_led D.2.2 D.1 x v
  split
  · exact h1
  · exact h1
def insT (l : List Str) (k : Str) : List Str := if k ∈ l then l else k :: l
theorem insT_len {l : List Str} {k : Str} : (insT l k).length ≤ l.length + 1 := by
  unfold insT
  split
  · omega
  · rw [List.length_cons]; exact Nat.le_refl _
end
section
variable {P : Program} {w : World} {A : Around} {E : Value → Shared → Prop} {s : Shared} {a : Addr} {l : List Str}
theorem setT_add {k : Str} {u : Tok} {Q : Bool → Shared → Prop} (R : SetT P w s.heap a l) (hb : l.length + 1 < scanBound)
    (hQ : ∀ b h', Heap.SameBut a s.heap h' → SetT P w h' a (insT l k) → Q b { s with heap := h' }) : wpAny (model P w) A (setAddHashed a (.str k u) (hashStr w k)) Q E s := by
  obtain ⟨D, ho, F, nd, r, hl⟩ := R
  by_cases hk : k ∈ l
  · obtain ⟨es, ep, t⟩ := D
    have hd : (sObj "set" (es, ep, t)).data = .set es ep t := rfl
    have hf : t.fits es.size = true := F.fit
    have hel : ElemsOf (strKind P w) es.toList := F.el
    have hsz : es.size = l.length := F.sz
    have hb0 : es.size < scanBound := by omega
    have hkey : (strKind P w).is k (.str k u) = true := is_str k u
    unfold setAddHashed setAddHashedIn
    refine wpAny_holding (wpAny_bind (wpAny_setState_of ho hd hf ?_))
    dsimp only
    rw [byScan_of rfl hb0 hel]
    simp only [↓reduceIte]
    unfold setAddByScan
    refine wpAny_bind ?_
    refine wpAny_bind (wpAny_rule ?_)
    refine wpAny_bind (wpAny_setScan_of (knd := strKind P w) (k := k) hkey ho hd hf hel ?_)
    cases hfi : List.findIdx? (fun e => (strKind P w).is k e.2) es.toList with
    | some j =>
      dsimp only
      refine wpAny_pure (wpAny_pure (hQ _ s.heap (Heap.SameBut.refl a s.heap) ?_))
      unfold insT
      rw [if_pos hk]
      exact ⟨(es, ep, t), ho, F, nd, r, hl⟩
    | none =>
      obtain ⟨e, he, z⟩ := (F.mem k).mp hk
      have := List.findIdx?_eq_none_iff.mp hfi e he
      rw [z] at this
      cases this
  · refine add_x ho F hk hb (hQ _ _ (Heap.SameBut.update _ a _) ?_)
    unfold insT
    rw [if_neg hk]
    refine ⟨_, get_upd _ ho rfl, add_ok u F, List.nodup_cons.mpr ⟨hk, nd⟩, add_ris r, ?_⟩
    rw [add_led]
    exact hl
end
section
variable {pg : Program} {wd : World} {A : Around} {E : Value → Shared → Prop} {s : Shared}
end
section
variable {pg : Program} {wd : World} {A : Around} {R : Result → Shared → Prop} {I : Addr} {fp wr : List Addr} {G : Array GenState → Array GenState → Prop} {n : Nat} {P : Nat → Value → Prop} {St : Nat → Shared → Prop}
def gotL (val : Nat → Str) : Nat → List Str
  | 0 => []
  | i + 1 => insT (gotL val i) (val i)
theorem gotL_len (val : Nat → Str) : ∀ i, (gotL val i).length ≤ i
  | 0 => Nat.le_refl _
  | i + 1 => Nat.le_trans insT_len (Nat.succ_le_succ (gotL_len val i))
/-- what has come of the first i -/
abbrev Got (P : Program) (w : World) (h : Heap) (a : Addr) (val : Nat → Str) (i : Nat) : Prop := SetT P w h a (gotL val i)
theorem loop (W : WalksS pg wd A.in1 I fp wr G n P St) (a : Addr) (out : a ∉ fp) (val : Nat → Str) (isI : ∀ i v, P i v → ∃ t, v = .str (val i) t) (room : n + 1 < scanBound) :
    ∀ (m i : Nat) (s : Shared), n - i = m → i ≤ n → St i s → Got pg wd s.heap a val i → (∀ t, Moved (a :: wr) G s t → Got pg wd t.heap a val n → R (.ok (.ret .none)) t) → codeAny (model pg wd) A (.builtin "set.update.loop" ⟨[.ref a, .ref I], []⟩) R s := by
  have nw : a ∉ wr := fun h => out (W.sub _ h)
  have up : ∀ b ∈ wr, b ∈ a :: wr := fun b hb => List.mem_cons_of_mem _ hb
  intro m
  induction m with
  | zero =>
    intro i s e1 e2 st got fin
    obtain rfl : i = n := by omega
    refine codeAny_builtin PyProof.Rows.F.entry_set_update_loop ?_
    rw [Around.under_plainId PyProof.Rows.F.plain_set_update_loop _]
    show wpAny _ A.in1 (pyNext (.ref I) >>= _) _ _ s
    refine wpAny_bind (W.done s _ _ st fun t mv => ?_)
    show wpAny _ A.in1 (ret Value.none) _ _ t
    exact wpAny_pure (fin t (mv.mono up) (SetT.at got fun o e => mv.heap a o nw e))
  | succ m ih =>
    intro i s e1 e2 st got fin
    have lt : i < n := by omega
    refine codeAny_builtin PyProof.Rows.F.entry_set_update_loop ?_
    rw [Around.under_plainId PyProof.Rows.F.plain_set_update_loop _]
    show wpAny _ A.in1 (pyNext (.ref I) >>= _) _ _ s
    refine wpAny_bind (W.item i s _ _ lt st fun v t hP st2 mv => ?_)
    obtain ⟨tk, rfl⟩ := isI i v hP
    have got2 : Got pg wd t.heap a val i := SetT.at got fun o e => mv.heap a o nw e
    show wpAny _ A.in1 (holding [Value.str (val i) tk] (setAdd a (.str (val i) tk)) >>= _) _ _ t
    refine wpAny_bind (wpAny_holding ?_)
    unfold setAdd
    refine wpAny_holding ?_
    refine wpAny_bind ((strKind pg wd).pyHash (k := val i) (is_str _ _) ?_)
    have few : (gotL val i).length + 1 < scanBound := by have := gotL_len val i; omega
    refine setT_add (P := pg) (s := { t with toks := t.toks + 1 }) got2 few fun b g sb r => ?_
    refine wpAny_pure ⟨plainId_quiet PyProof.Rows.F.plain_set_update_loop _, ih (i + 1) _ (by omega) lt (W.frame _ t _ _ st2 (Nat.le_succ _) fun b hb o e => ?_) r fun t2 mv2 got4 => ?_⟩
    · rw [sb.2 b (fun z : b = a => out (z ▸ hb))]; exact e
    · refine fin t2 (Moved.trans W.gtrans ((mv.mono up).then_heap (Nat.le_succ _) fun b o hb e => ?_) mv2) got4
      rw [sb.2 b (fun z : b = a => hb (z ▸ List.mem_cons_self))]; exact e
end
section
variable {pg : Program} {wd : World} {A : Around} {E : Value → Shared → Prop} {s : Shared}
end
end SetS

set_option maxHeartbeats 4000000
/-! set([texts]) with its members, sorted; the layer's rule for texts of one sign -/
namespace SetS
open PySem PySem.Spec PySem.Calls PyProof.Rows L2 PySem.Froz
section
variable {X : Cx}
end
section
variable {P : Program} {w : World} {A : Around} {E : Value → Shared → Prop} {s : Shared} {a : Addr} {l : List Str}
end
section
variable {X : Cx}
end
end SetS
namespace Fu
open PySem PySem.Spec PySem.Calls PyProof.Rows L2 SetS
section
variable [TabsC] {X : Cx} {pos p p2 pos2 : Pos} {e : Expr} {gs : M (List D)}
end
end Fu

set_option maxHeartbeats 4000000
/-! dicts whose keys are tuples of ints: an own one, written; told as data; read -/
namespace Fu
open PySem PySem.Spec PyProof.Rows L2
variable [TabsC]
def kk (ks : List Int) : List Key := ks.map Sum.inl
section
variable {K : PySem.W.Frag} {A : List Addr} {F : Hp}
end
/-! ### data read -/
section
variable {K : PySem.W.Frag} {F : Hp}
end
section
variable {X : Cx} {pos ap cp : Pos} {o e : Expr} {gd gk : M D} {n : Nat}
end
/-! ### an own one, written -/
section
variable {X : Cx} {P : Hp → Prop} {pos pd p p2 py : Pos} {y x : Str} {b : Expr} {gk : M D} {tgt : List Nat} {n : Nat}
end
/-! ### dict(pairs), held as data: what it holds is not told, but for an empty one -/
section
variable {X : Cx} {pos p : Pos} {e : Expr} {gs : M (List D)}
end
end Fu

set_option maxHeartbeats 4000000
/-! a stretch of an own list stored: `name[a:b] = [..]` -/
namespace Fu
open PySem PySem.Spec PyProof.Rows L2
variable [TabsC]
section
variable {X : Cx} {pos p2 py : Pos} {y : Str} {lo hi : Option Expr} {gl gh : M (Option Int)} {tgt : List Nat}
end
/-! ### a test that is a choice of tests -/
section
variable {X : Cx} {pos : Pos} {c a b : Expr} {g ga gb : M Bool} {tc ta tb : TT}
end
end Fu

set_option maxHeartbeats 4000000
/-! tuples of new lists: made, told, held, added to, parted -/
namespace Fu
open PySem PySem.Spec PyProof.Rows L2
variable [TabsC]
def RdR (K : PySem.W.Frag) (t : TE) (g : Sx → Option (R × Sx)) : Prop := ∀ A F H S σ r S' (Q : VK), Ok K A F H S σ → g S = some (r, S') → (∀ A' F' H' v, A <+: A' → SameT F F' → Ok K A' F' H' S' σ → Rr K A' F' v r → Q v H') → t σ H Q
/-- an expression that gives what holds new lists -/
structure GR (X : Cx) (e : Expr) (g : Sx → Option (R × Sx)) : Prop where
  ex : ∃ t, PE X e t ∧ RdR X.K t g
def rNew (g : M D) : Sx → Option (R × Sx) := fun S => (g S).bind fun p => match p.1 with
  | .list ds => some (.own p.2.os.length, ⟨p.2.sl, p.2.os ++ [some (.lst ds)]⟩)
  | _ => none
def rTup2 (ga gb : Sx → Option (R × Sx)) : Sx → Option (R × Sx) := fun S => (ga S).bind fun p => (gb p.2).bind fun q => some (.tup [p.1, q.1], q.2)
def rOwn (i : Nat) : Sx → Option (R × Sx) := fun S => match S.sl[i]? with
  | some (some (.own j)) => some (.own j, S)
  | _ => none
section
variable {X : Cx} {P : Hp → Prop} {pos p p2 py : Pos} {x y z : Str} {a b e : Expr} {g ge : M D} {ga gb gr : Sx → Option (R × Sx)} {n : Nat}
theorem r_new (h : GN X e g) : GR X e (rNew g) := by
  obtain ⟨t, pe, re⟩ := h.ex
  refine ⟨t, pe, fun A F H S σ r S' Q k h post => ?_⟩
  obtain ⟨⟨d, S1⟩, h1, h⟩ := bind_inv h
  cases d <;> simp only at h <;> try cases h
  rename_i ds
  refine re A F H S σ _ S1 Q k h1 fun A1 F1 G p vs ds' p1 s1 k1 hp ed rv hz => ?_
  cases ed
  have k2 := k1.cellNew (o := .lst vs) (c := .lst ds) hp trivial ⟨vs, upd_same, rv, hz⟩
  exact post _ F1 _ _ (p1.trans (List.prefix_append _ _)) s1 k2 (.own (by rw [k1.alen]; simp))
theorem r_own (i : Nat) (hN : X.N[i]? = some y := by rfl) (hv : Vis X.env.scope y := by first | exact Or.inl rfl | exact Or.inr (Or.inl rfl) | exact Or.inr (Or.inr rfl)) (hdy : (y == ("__debug__" : Str)) = false := by decide) (hcd : (y == ("__classdict__" : Str)) = false := by decide) :
    GR X (.Name y py) (rOwn i) := by
  refine ⟨_, pe_var hN hv hdy hcd, fun A F H S σ r S' Q k h post => ?_⟩
  unfold rOwn at h
  split at h
  · rename_i j ej
    cases h
    obtain ⟨v, ev, rv⟩ := k.rslot i _ ej
    exact ⟨v, ev, post A F H v (List.prefix_refl _) (SameT.refl F) k rv⟩
  · cases h
theorem r_tup2 {x1} (ha : GR X a ga) (hb : GR X b gb) (h1 : starEach [a, b] X.env = (false, eval a X.env) :: starEach [b] X.env := by rfl) (h2 : starEach [b] X.env = (false, eval b X.env) :: starEach [] X.env := by rfl) : GR X (.Tuple [a, b] x1 pos) (rTup2 ga gb) := by
  obtain ⟨ta, pa, ra⟩ := ha.ex
  obtain ⟨tb, pb, rb⟩ := hb.ex
  refine ⟨_, pe_tup (pa_cons pa (pa_cons pb pa_nil h2) h1), fun A F H S σ r S' Q k h post => ?_⟩
  obtain ⟨⟨r1, S1⟩, e1, h⟩ := bind_inv h
  obtain ⟨⟨r2, S2⟩, e2, h⟩ := bind_inv h
  cases h
  refine ra A F H S σ r1 S1 _ k e1 fun A1 F1 H1 v p1 s1 k1 q1 => rb A1 F1 H1 S1 σ r2 S2 _ k1 e2 fun A2 F2 H2 u p2 s2 k2 q2 => ⟨(show 2 ≤ sizeLine by decide), fun p hp => ?_⟩
  have s3 : SameT F2 (upd F2 p (.tup [v, u])) := same_upd (k2.sub.none hp)
  exact post A2 _ _ _ (p1.trans p2) (s1.trans (s2.trans s3)) (k2.laid hp) (.tup upd_same (.cons (Rr.mono (List.prefix_refl _) s3 _ _ (Rr.mono p2 s2 _ _ q1)) (.cons (Rr.mono (List.prefix_refl _) s3 _ _ q2) .nil)) (show 2 ≤ sizeLine by decide))
/-! #### statements -/
def qRetR (g : Sx → Option (R × Sx)) : Sx → Option Out := fun S => (g S).bind fun p => some (.rs p.1 p.2)
theorem s_retR (he : GR X e gr) : GS X P (.Return (some e) pos) (qRetR gr) := by
  obtain ⟨t, pe, re⟩ := he.ex
  refine ⟨_, ps_ret pe, fun B A0 A F H S σ o E hP s p k h post => ?_⟩
  obtain ⟨⟨r, S1⟩, e1, h⟩ := bind_inv h
  cases h
  exact re A F H S σ r S1 _ k e1 fun A1 F1 H1 v p1 s1 k1 q => post A1 F1 H1 σ v (s.trans s1) (p.trans p1) k1 q
end
end Fu

set_option maxHeartbeats 4000000
/-! list(zip(xs, ys)): the pairs gathered one by one -/
namespace ZipL
open PySem PySem.Calls PyProof.Rows L2
/-- the addresses as hold the pairs, in order; they lie above lo and rise -/
structure Prs (xs ys : Array Value) (lo : Addr) (g : Heap) (as : List Addr) : Prop where
  rise : as.Pairwise (· < ·)
  above : ∀ a ∈ as, lo < a
  pairs : ∀ (j : Nat) (a : Addr), as[j]? = some a → ∃ x y, xs[j]? = some x ∧ ys[j]? = some y ∧ IsPair g a x y
theorem Prs.there {xs ys : Array Value} {lo : Addr} {g : Heap} {as : List Addr} (p : Prs xs ys lo g as) {a : Addr} (ha : a ∈ as) : a < g.objs.size := by
  obtain ⟨j, hj⟩ := List.mem_iff_getElem?.mp ha
  obtain ⟨_, _, _, _, e⟩ := p.pairs j a hj
  exact Heap.lt_size e
/-- a zip that stands at item i, S the list being made -/
def ZSt (g : Heap) (z TI TO i1 i2 l1 l2 S : Addr) (xs ys : Array Value) (i : Nat) : Prop :=
  IsPair g TI (.ref i1) (.ref i2) ∧ g.IsListIter i1 l1 i ∧ g.IsListIter i2 l2 i ∧ g.IsList l1 xs ∧ g.IsList l2 ys ∧
    ((IsZip g z TI TO .none ∧ ∃ a b, IsPair g TO a b) ∨ ∃ T f oT, IsZipHeld g z TI TO T f ∧ g.get? T = some oT ∧ T ≠ z ∧ T ≠ i1 ∧ T ≠ i2 ∧ T ≠ S)
section
variable {pg : Program} {wd : World} {A : Around} {E : Value → Shared → Prop} {s : Shared} {z TI TO i1 i2 l1 l2 S : Addr} {xs ys : Array Value}
theorem zst_keep {g g' : Heap} {i : Nat} (h : ZSt g z TI TO i1 i2 l1 l2 S xs ys i) (nS : ∀ b ∈ [z, TI, TO, i1, i2, l1, l2], b ≠ S) (up : ∀ b o, b ≠ S → g.get? b = some o → g'.get? b = some o) : ZSt g' z TI TO i1 i2 l1 l2 S xs ys i := by
  obtain ⟨hTI, h1, h2, hl1, hl2, hz⟩ := h
  refine ⟨up _ _ (nS _ (by simp)) hTI, h1.at fun o e => up _ o (nS _ (by simp)) e, h2.at fun o e => up _ o (nS _ (by simp)) e, hl1.at fun o e => up _ o (nS _ (by simp)) e, hl2.at fun o e => up _ o (nS _ (by simp)) e, ?_⟩
  rcases hz with ⟨hz, a, b, hTO⟩ | ⟨T, f, oT, hz, hT, r1, r2, r3, r4⟩
  · exact .inl ⟨up _ _ (nS _ (by simp)) hz, a, b, up _ _ (nS _ (by simp)) hTO⟩
  · exact .inr ⟨T, f, oT, up _ _ (nS _ (by simp)) hz, up _ _ r4 hT, r1, r2, r3, r4⟩
theorem one {i : Nat} {x y : Value} {Q : Option Value → Shared → Prop} (D : ZipApart z TI TO i1 i2 l1 l2) (st : ZSt s.heap z TI TO i1 i2 l1 l2 S xs ys i) (hS : S < s.heap.objs.size) (ex : xs[i]? = some x) (ey : ys[i]? = some y)
    (hQ : ∀ g', ZSt g' z TI TO i1 i2 l1 l2 S xs ys (i + 1) → IsPair g' s.heap.objs.size x y → (∀ b o, b ≠ z → b ≠ TO → b ≠ i1 → b ≠ i2 → s.heap.get? b = some o → g'.get? b = some o) → Q (some (.ref s.heap.objs.size)) { s with heap := g' }) :
    wpAny (model pg wd) A (pyNext (.ref z)) Q E s := by
  obtain ⟨hTI, h1, h2, hl1, hl2, hz⟩ := st
  have lt : ∀ {c o}, s.heap.get? c = some o → s.heap.objs.size ≠ c := fun e => Nat.ne_of_gt (Heap.lt_size e)
  have n1 : s.heap.objs.size ≠ i1 := let ⟨_, e, _⟩ := h1; lt e
  have n2 : s.heap.objs.size ≠ i2 := let ⟨_, e, _⟩ := h2; lt e
  rcases hz with ⟨hz, a, b, hTO⟩ | ⟨T, f, oT, hz, hT, r1, r2, r3, r4⟩
  · refine wpAny_pyNext_zip_item D hz hTI hTO h1 h2 hl1 hl2 ex ey fun g' a1 a2 a3 a4 a5 a6 hk => ?_
    refine hQ g' ⟨hk _ _ D.TIz D.TITO D.TIi1 D.TIi2 hTI, a3, a4, hl1.at fun o e => hk _ o D.l1z D.l1TO D.l1i1 D.l1i2 e, hl2.at fun o e => hk _ o D.l2z D.l2TO D.l2i1 D.l2i2 e, ?_⟩ a5 hk
    exact .inr ⟨s.heap.objs.size, false, _, a1, a5, lt hz, n1, n2, Nat.ne_of_gt hS⟩
  · refine wpAny_pyNext_zip_item_held D hz hT hTI h1 h2 hl1 hl2 ex ey fun g' a1 a3 a4 a5 a6 hk => ?_
    refine hQ g' ⟨hk _ _ D.TIz D.TIi1 D.TIi2 hTI, a3, a4, hl1.at fun o e => hk _ o D.l1z D.l1i1 D.l1i2 e, hl2.at fun o e => hk _ o D.l2z D.l2i1 D.l2i2 e, ?_⟩ a5 fun b o c1 _ c3 c4 e => hk b o c1 c3 c4 e
    exact .inr ⟨T, true, oT, a1, hk _ _ r1 r2 r3 hT, r1, r2, r3, r4⟩
theorem last {i : Nat} {Q : Option Value → Shared → Prop} (hh : A.handled = none) (D : ZipApart z TI TO i1 i2 l1 l2) (st : ZSt s.heap z TI TO i1 i2 l1 l2 S xs ys i) (hend : xs[i]? = none ∨ ys[i]? = none)
    (hQ : ∀ g', (∀ b o, b ≠ z → b ≠ TO → b ≠ i1 → b ≠ i2 → s.heap.get? b = some o → g'.get? b = some o) → Q none { s with heap := g' }) : wpAny (model pg wd) A (pyNext (.ref z)) Q E s := by
  obtain ⟨hTI, h1, h2, hl1, hl2, hz⟩ := st
  rcases hz with ⟨hz, a, b, hTO⟩ | ⟨T, f, oT, hz, hT, r1, r2, r3, r4⟩
  · exact wpAny_pyNext_zip_end hh D hz hTI hTO h1 h2 hl1 hl2 hend hQ
  · exact wpAny_pyNext_zip_end_held hh D hz hT hTI h1 h2 hl1 hl2 hend fun g' hk => hQ g' fun b o c1 _ c3 c4 e => hk b o c1 c3 c4 e
end
section
variable {pg : Program} {wd : World} {A : Around} {s : Shared} {R : Result → Shared → Prop} {z TI TO i1 i2 l1 l2 S : Addr} {xs ys : Array Value}
theorem loop (hh : A.handled = none) (D : ZipApart z TI TO i1 i2 l1 l2) (top : ∀ b ∈ [z, TI, TO, i1, i2, l1, l2], b < S) (hn : min xs.size ys.size ≤ sizeLine) (res : Value) {g₁ : Heap}
    (hR : ∀ g' tk acc c as, (∀ b o, b ≠ S → b ≠ z → b ≠ TO → b ≠ i1 → b ≠ i2 → g₁.get? b = some o → g'.get? b = some o) → g'.get? S = some { cls := .type "list", dict := none, data := .seq acc c, slots := #[] } → as.length = min xs.size ys.size → Prs xs ys S g' as →
      acc.toList = as.map Value.ref → R (.ok (.ret res)) { s with heap := g', toks := tk }) :
    ∀ (k i : Nat) (g : Heap) (tk c : Nat) (acc : Array Value) (as : List Addr), min xs.size ys.size - i = k → i ≤ min xs.size ys.size → ZSt g z TI TO i1 i2 l1 l2 S xs ys i → (∀ b o, b ≠ S → b ≠ z → b ≠ TO → b ≠ i1 → b ≠ i2 → g₁.get? b = some o → g.get? b = some o) →
      g.get? S = some { cls := .type "list", dict := none, data := .seq acc c, slots := #[] } → acc.toList = as.map Value.ref → as.length = i → Prs xs ys S g as →
      codeAny (model pg wd) A (.builtin "list.extend.loop" ⟨[.ref S, .ref z, res], []⟩) R { s with heap := g, toks := tk } := by
  have nS : ∀ b ∈ [z, TI, TO, i1, i2, l1, l2], b ≠ S := fun b hb => Nat.ne_of_lt (top b hb)
  have low : ∀ {b : Addr}, S < b → b ≠ S ∧ b ≠ z ∧ b ≠ TO ∧ b ≠ i1 ∧ b ≠ i2 := fun {b} hb => ⟨Nat.ne_of_gt hb, Nat.ne_of_gt (Nat.lt_trans (top z (by simp)) hb), Nat.ne_of_gt (Nat.lt_trans (top TO (by simp)) hb), Nat.ne_of_gt (Nat.lt_trans (top i1 (by simp)) hb), Nat.ne_of_gt (Nat.lt_trans (top i2 (by simp)) hb)⟩
  have offS : S ≠ z ∧ S ≠ TO ∧ S ≠ i1 ∧ S ≠ i2 := ⟨(nS z (by simp)).symm, (nS TO (by simp)).symm, (nS i1 (by simp)).symm, (nS i2 (by simp)).symm⟩
  intro k
  induction k with
  | zero =>
    intro i g tk c acc as hk hi hst hkeep hS hacc hal hP
    have hin : i = min xs.size ys.size := by omega
    refine codeAny_builtin PySem.F.entry_extend_loop ?_
    rw [Around.under_plainId PySem.F.plain_extend_loop _]
    show wpAny _ A.in1 (pyNext (.ref z) >>= _) _ _ _
    have hend : xs[i]? = none ∨ ys[i]? = none := by
      rcases Nat.le_total xs.size ys.size with h | h
      · exact .inl (Array.getElem?_eq_none (by rw [hin, Nat.min_eq_left h]; exact Nat.le_refl _))
      · exact .inr (Array.getElem?_eq_none (by rw [hin, Nat.min_eq_right h]; exact Nat.le_refl _))
    refine wpAny_bind (last (s := { s with heap := g, toks := tk }) (A := A.in1) hh D hst hend fun g' he => ?_)
    refine wpAny_pure (hR g' tk acc c as (fun b o c0 c1 c2 c3 c4 e => he b o c1 c2 c3 c4 (hkeep b o c0 c1 c2 c3 c4 e)) (he S _ offS.1 offS.2.1 offS.2.2.1 offS.2.2.2 hS) (by omega) ⟨hP.rise, hP.above, fun j a hj => ?_⟩ hacc)
    obtain ⟨x, y, e1, e2, e3⟩ := hP.pairs j a hj
    obtain ⟨_, c1, c2, c3, c4⟩ := low (hP.above a (List.mem_of_getElem? hj))
    exact ⟨x, y, e1, e2, he a _ c1 c2 c3 c4 e3⟩
  | succ k ih =>
    intro i g tk c acc as hk hi hst hkeep hS hacc hal hP
    have hix : i < xs.size := by omega
    have hiy : i < ys.size := by omega
    have hsz : acc.size = i := by rw [← Array.length_toList, hacc, List.length_map, hal]
    have hSl : S < g.objs.size := Heap.lt_size hS
    refine codeAny_builtin PySem.F.entry_extend_loop ?_
    rw [Around.under_plainId PySem.F.plain_extend_loop _]
    show wpAny _ A.in1 (pyNext (.ref z) >>= _) _ _ _
    refine wpAny_bind (one (s := { s with heap := g, toks := tk }) D hst hSl (Array.getElem?_eq_getElem hix) (Array.getElem?_eq_getElem hiy) fun g' hst' ht hkp => ?_)
    dsimp only at ht hkp ⊢
    have hS' := hkp S _ offS.1 offS.2.1 offS.2.2.1 offS.2.2.2 hS
    have up : ∀ b o, b ≠ S → g'.get? b = some o → (g'.update S (Obj.mapSeq (·.push (Value.ref g.objs.size)))).get? b = some o := fun b o hb e => (Heap.get?_update_other _ _ (Ne.symm hb)).trans e
    show wpAny _ A.in1 (updateSeq S (·.push (Value.ref g.objs.size)) >>= _) _ _ _
    refine wpAny_bind ?_
    refine wpAny_updateSeq hS' rfl (wpAny_pure ⟨plainId_quiet PySem.F.plain_extend_loop _, ih (i + 1) _ tk _ (acc.push (Value.ref g.objs.size)) (as ++ [g.objs.size]) (by omega) (by omega) (zst_keep hst' nS up)
      (fun b o c0 c1 c2 c3 c4 e => up b o c0 (hkp b o c1 c2 c3 c4 (hkeep b o c0 c1 c2 c3 c4 e))) (Heap.get?_update_self _ hS' rfl) (by rw [Array.toList_push, hacc, List.map_append]; rfl) (by rw [List.length_append, hal]; rfl) ⟨?_, ?_, ?_⟩⟩) (by rw [hsz]; omega) (by show (acc.push (Value.ref g.objs.size)).size ≤ sizeLine + 1; rw [Array.size_push, hsz]; omega)
    · refine List.pairwise_append.mpr ⟨hP.rise, List.pairwise_singleton _ _, fun a ha b hb => ?_⟩
      rw [List.mem_singleton.mp hb]
      exact hP.there ha
    · intro a ha
      rcases List.mem_append.mp ha with ha | ha
      · exact hP.above a ha
      · rw [List.mem_singleton.mp ha]; exact hSl
    · intro j b hj
      rcases Nat.lt_trichotomy j as.length with h1 | h1 | h1
      · rw [List.getElem?_append_left h1] at hj
        obtain ⟨x, y, e1, e2, e3⟩ := hP.pairs j b hj
        obtain ⟨c0, c1, c2, c3, c4⟩ := low (hP.above b (List.mem_of_getElem? hj))
        exact ⟨x, y, e1, e2, up b _ c0 (hkp b _ c1 c2 c3 c4 e3)⟩
      · subst h1
        have hb : g.objs.size = b := by simpa using hj
        subst hb
        exact ⟨_, _, by rw [hal]; exact Array.getElem?_eq_getElem hix, by rw [hal]; exact Array.getElem?_eq_getElem hiy, up _ _ (Nat.ne_of_gt hSl) ht⟩
      · have hnone : (as ++ [g.objs.size])[j]? = none := List.getElem?_eq_none (by rw [List.length_append, List.length_singleton]; omega)
        rw [hnone] at hj; cases hj
end
theorem no_len : typeLookup (.type "zip") "__len__" = pure none := am_miss_of_fast (by decide +kernel)
theorem no_hint : typeLookup (.type "zip") "__length_hint__" = pure none := am_miss_of_fast (by decide +kernel)
section
variable {pg : Program} {wd : World} {A : Around} {E : Value → Shared → Prop} {s : Shared} {z TI TO i1 i2 l1 l2 S : Addr} {xs ys : Array Value}
theorem extend {R : Result → Shared → Prop} (hh : A.handled = none) (D : ZipApart z TI TO i1 i2 l1 l2) (top : ∀ b ∈ [z, TI, TO, i1, i2, l1, l2], b < S) (hn : min xs.size ys.size ≤ sizeLine) (hz : IsZip s.heap z TI TO .none) (st : ZSt s.heap z TI TO i1 i2 l1 l2 S xs ys 0) (res : Value) (c₀ : Nat)
    (hS : s.heap.get? S = some { cls := .type "list", data := .seq #[] c₀ })
    (hR : ∀ g' tk acc c as, (∀ b o, b ≠ S → b ≠ z → b ≠ TO → b ≠ i1 → b ≠ i2 → s.heap.get? b = some o → g'.get? b = some o) → g'.get? S = some { cls := .type "list", dict := none, data := .seq acc c, slots := #[] } → as.length = min xs.size ys.size → Prs xs ys S g' as →
      acc.toList = as.map Value.ref → R (.ok (.ret res)) { s with heap := g', toks := tk }) :
    wpAny (model pg wd) A.in1 (Builtin.List.listExtendWith (.ref S) (.ref z) res)
      (fun fin s' => match fin with | .done f => R (.ok f) s' | .again c' => c'.quiet = true ∧ codeAny (model pg wd) A c' R s') (fun e s' => R (.error e) s') s := by
  have nS : ∀ b ∈ [z, TI, TO, i1, i2, l1, l2], b ≠ S := fun b hb => Nat.ne_of_lt (top b hb)
  have key : ∀ (g : Heap) (c₁ tk : Nat), (∀ b o, b ≠ S → s.heap.get? b = some o → g.get? b = some o) → g.get? S = some { cls := .type "list", data := .seq #[] c₁ } →
      codeAny (model pg wd) A (.builtin "list.extend.loop" ⟨[.ref S, .ref z, res], []⟩) R { s with heap := g, toks := tk } := fun g c₁ tk hk hS₁ =>
    loop (s := s) (g₁ := s.heap) hh D top hn res hR (min xs.size ys.size) 0 g tk c₁ #[] [] (Nat.sub_zero _) (Nat.zero_le _) (zst_keep st nS hk) (fun b o c0 _ _ _ _ e => hk b o c0 e) hS₁ rfl rfl
      ⟨List.Pairwise.nil, (fun _ ha => nomatch ha), (fun j a hj => by simp at hj)⟩
  have hT : s.TypeIs (.ref z) "zip" := ⟨_, hz, rfl⟩
  unfold Builtin.List.listExtendWith
  refine wpAny_bind (wpAny_typeOf hT ?_)
  have t1 : Builtin.List.listSameRef (.ref S) (.ref z) = false := by
    have : S ≠ z := (nS z (by simp)).symm
    simp [Builtin.List.listSameRef, this]
  have t2 : (Value.type "zip" == Value.type "list") = false := by decide
  have t3 : (Value.type "zip" == Value.type "tuple") = false := by decide
  simp only [t1, t2, t3, Bool.or_false, Bool.false_eq_true, if_false]
  refine wpAny_bind (wpAny_pyIter_zip hz ?_)
  refine wpAny_bind (wpAny_holding ?_)
  unfold Builtin.List.listLengthHint
  refine wpAny_bind (wpAny_specialOf hT no_len ?_)
  show wpAny _ A.in1 (specialOf (Value.ref z) (Str.ofString "__length_hint__") >>= _) _ _ _
  refine wpAny_bind (wpAny_specialOf hT no_hint ?_)
  refine wpAny_pure ?_
  show wpAny _ A.in1 (rule "list.extend.makes-room" >>= fun _ => Builtin.List.listTouch (.ref S) >>= fun _ => again (.builtin "list.extend.loop" ⟨[.ref S, .ref z, res], []⟩)) _ _ _
  refine wpAny_bind (wpAny_rule ?_)
  refine wpAny_bind ?_
  show wpAny _ A.in1 (updateSeq S (·.push .none) >>= fun _ => updateSeq S (·.pop)) _ _ _
  refine wpAny_bind (wpAny_updateSeq hS rfl ?_)
  have hS₂ := Heap.get?_update_self (Obj.mapSeq (·.push Value.none)) hS rfl
  refine wpAny_updateSeq (hz := by seq_fits) hS₂ rfl ?_
  have hS₃ := Heap.get?_update_self (Obj.mapSeq (·.pop)) hS₂ rfl
  refine wpAny_pure ⟨plainId_quiet PySem.F.plain_extend_loop _, key _ _ _ (fun b o hb e => ?_) hS₃⟩
  exact (Heap.get?_update_other _ _ (Ne.symm hb)).trans ((Heap.get?_update_other _ _ (Ne.symm hb)).trans e)
/-- list(z), z a zip that has just been made over two lists -/
theorem call {Q : Value → Shared → Prop} (hh : A.handled = none) (D : ZipApart z TI TO i1 i2 l1 l2) (top : ∀ b ∈ [z, TI, TO, i1, i2, l1, l2], b < s.heap.objs.size) (hn : min xs.size ys.size ≤ sizeLine) (hz : IsZip s.heap z TI TO .none)
    (st : IsPair s.heap TI (.ref i1) (.ref i2) ∧ s.heap.IsListIter i1 l1 0 ∧ s.heap.IsListIter i2 l2 0 ∧ s.heap.IsList l1 xs ∧ s.heap.IsList l2 ys ∧ ∃ a b, IsPair s.heap TO a b)
    (hQ : ∀ g' tk acc c as, (∀ b o, b ≠ z → b ≠ TO → b ≠ i1 → b ≠ i2 → s.heap.get? b = some o → g'.get? b = some o) → g'.get? s.heap.objs.size = some { cls := .type "list", dict := none, data := .seq acc c, slots := #[] } → as.length = min xs.size ys.size → Prs xs ys s.heap.objs.size g' as →
      acc.toList = as.map Value.ref → Q (.ref s.heap.objs.size) { s with heap := g', toks := tk }) :
    wpAny (model pg wd) A (PySem.call (.type "list") [.ref z]) Q E s := by
  obtain ⟨hTI, h1, h2, hl1, hl2, a, b, hTO⟩ := st
  refine callType_codes (Q₁ := fun obj s₁ => obj = .ref s.heap.objs.size ∧ s₁ = { s with heap := s.heap.push { cls := .type "list", data := .seq #[] } }) PySem.F.called_list (PySem.F.typeCall_list_1 _) PySem.F.entry_list_init
    (code_list_new _ ⟨rfl, rfl⟩) fun obj s₁ q₁ => ?_
  obtain ⟨rfl, rfl⟩ := q₁
  have hS : (s.heap.push { cls := .type "list", data := .seq #[] }).get? s.heap.objs.size = some { cls := .type "list", data := .seq #[] } := Heap.get?_push_size _ rfl
  refine ⟨⟨_, hS, rfl⟩, PySem.F.args_list_init_2 _ _, ?_⟩
  show wpAny _ _ (do let old ← Builtin.List.listItems (.ref s.heap.objs.size); Builtin.List.listUpdate (.ref s.heap.objs.size) (fun _ => #[]); letGo old.toList.reverse; Builtin.List.listExtendWith (.ref s.heap.objs.size) (.ref z) .none) _ _ _
  refine wpAny_bind ?_
  unfold Builtin.List.listItems
  refine wpAny_bind (wpAny_seqItems hS rfl (wpAny_pure ?_))
  show wpAny _ _ (updateSeq s.heap.objs.size (fun _ => #[]) >>= fun _ => letGo (#[] : Array Value).toList.reverse >>= fun _ => Builtin.List.listExtendWith (.ref s.heap.objs.size) (.ref z) .none) _ _ _
  refine wpAny_bind (wpAny_updateSeq hS rfl ?_)
  have hS₂ := Heap.get?_update_self (Obj.mapSeq (fun _ => (#[] : Array Value))) hS rfl
  have oth : ∀ b o, b ≠ s.heap.objs.size → s.heap.get? b = some o → ((s.heap.push { cls := .type "list", data := .seq #[] }).update s.heap.objs.size (Obj.mapSeq (fun _ => (#[] : Array Value)))).get? b = some o :=
    fun b o hb e => (Heap.get?_update_other _ _ (Ne.symm hb)).trans (Heap.get?_push_of_some _ e)
  refine wpAny_bind (wpAny_letGo ?_)
  have nS : ∀ b ∈ [z, TI, TO, i1, i2, l1, l2], b ≠ s.heap.objs.size := fun b hb => Nat.ne_of_lt (top b hb)
  have st0 : ZSt s.heap z TI TO i1 i2 l1 l2 s.heap.objs.size xs ys 0 := ⟨hTI, h1, h2, hl1, hl2, .inl ⟨hz, a, b, hTO⟩⟩
  refine extend (A := A.in1) (s := { s with heap := (s.heap.push { cls := .type "list", data := .seq #[] }).update s.heap.objs.size (Obj.mapSeq (fun _ => (#[] : Array Value))) }) hh D top hn (oth _ _ (nS z (by simp)) hz) (zst_keep st0 nS oth) .none _ hS₂ fun g' tk acc c as hk hS' hl hP hacc => ?_
  exact ⟨rfl, hQ g' tk acc c as (fun b o c1 c2 c3 c4 e => hk b o (Nat.ne_of_lt (Heap.lt_size e)) c1 c2 c3 c4 (oth b o (Nat.ne_of_lt (Heap.lt_size e)) e)) hS' hl hP hacc⟩
end
end ZipL
namespace Fu
open PySem PySem.Spec PyProof.Rows L2
variable [TabsC]
def layP (H : Hp) : List Addr → List (V × V) → Hp
  | a :: as, p :: ps => layP (upd H a (.tup [p.1, p.2])) as ps
  | _, _ => H
def tListZip (K : PySem.W.Frag) (ta : TA) : TE := fun σ H Q => ta σ H fun vs H1 => ∃ (a b : Addr) (xs ys : List V), vs = [.ref a, .ref b] ∧ SqL K H1 a xs ∧ SqL K H1 b ys ∧ min xs.length ys.length ≤ sizeLine ∧
  ∀ (as : List Addr) (S : Addr), as.length = min xs.length ys.length → as.Nodup → (∀ t ∈ as, H1 t = none ∧ t ≠ S) → H1 S = none → Q (.ref S) (upd (layP H1 as (xs.zip ys)) S (.lst (as.map V.ref)))
theorem layP_none {S : Addr} : ∀ {as : List Addr} {ps : List (V × V)} {H : Hp}, H S = none → (∀ t ∈ as, t ≠ S) → layP H as ps S = none
  | [], _, H, h, _ => by cases ‹List (V × V)› <;> exact h
  | a :: as, [], H, h, _ => h
  | a :: as, p :: ps, H, h, n => layP_none (H := upd H a _) (by rw [upd_ne (n a List.mem_cons_self).symm]; exact h) fun t ht => n t (List.mem_cons_of_mem _ ht)
theorem track {X : Cx} {pins : List (Addr × Obj)} {σ : L2.St} {s1 sg : Shared} {H0 : Hp} (I1 : Inv X pins σ H0 s1) : ∀ (as : List Addr) (ps : List (V × V)) (H : Hp), Inv X pins σ H sg → as.Nodup → (∀ a ∈ as, s1.heap.objs.size ≤ a ∧ H a = none) →
    (∀ (j : Nat) a, as[j]? = some a → ∃ p u u2, ps[j]? = some p ∧ RelV p.1 u ∧ RelV p.2 u2 ∧ IsPair sg.heap a u u2) → Inv X pins σ (layP H as ps) sg
  | [], ps, H, I, _, _, _ => by cases ps <;> exact I
  | a :: as, [], H, I, _, _, h => by obtain ⟨p, _, _, e, _⟩ := h 0 a rfl; cases e
  | a :: as, p :: ps, H, I, nd, fr, h => by
    rw [List.nodup_cons] at nd
    obtain ⟨f1, f2⟩ := fr a List.mem_cons_self
    obtain ⟨p', u, u2, e, r1, r2, hT⟩ := h 0 a rfl
    cases e
    have I2 : Inv X pins σ (upd H a (.tup [p.1, p.2])) sg := I.take (t' := sg.toks) (h' := sg.heap) (fun b ob _ q => q) (I1.fpOk f1 f2) ⟨by show 2 ≤ sizeLine; decide, [u, u2], .cons r1 (.cons r2 .nil), ⟨_, hT, rfl, _, rfl⟩⟩
    refine track I1 as ps _ I2 nd.2 (fun b hb => ⟨(fr b (List.mem_cons_of_mem _ hb)).1, ?_⟩) fun j b hj => h (j + 1) b hj
    rw [upd_ne (show b ≠ a from fun z => by subst z; exact nd.1 hb)]
    exact (fr b (List.mem_cons_of_mem _ hb)).2
theorem pe_listZip {X : Cx} {e e2 : Expr} {ta : TA} {p p2 p3 pos : Pos} (hc : X.calm = true) (hg : Gl X "list") (hm : X.mg "list" = none) (hg2 : Gl X "zip") (hm2 : X.mg "zip" = none) (ha : PA X [e, e2] ta)
    (hs : starEach [e, e2] X.env = (false, eval e X.env) :: starEach [e2] X.env := by rfl) (hpl : (backTo p3 (starEach [e2] X.env)).any (·.1) = false := by rfl)
    (na : starEach [.Call (.Name "zip" p2) [e, e2] [] p3] X.env = (false, eval (.Call (.Name "zip" p2) [e, e2] [] p3) X.env) :: starEach [] X.env := by rfl) :
    PE X (.Call (.Name "list" p) [.Call (.Name "zip" p2) [e, e2] [] p3] [] pos) (tListZip X.K ta) := by
  refine ⟨fun pins s σ H Q I h => ?_⟩
  refine Call_ (ld_blt I hg hm boot_list (PyProof.Rows.callWith_type1 (args_cons ?_ na) na))
  refine Call_ (ld_blt I hg2 hm2 PyProof.Rows.boot_zip (PyProof.Rows.callWith_type1 (thn (ha.run p3 pins s σ H _ I h) fun us s1 ⟨vs, H1, I1, r1, q1⟩ => ?_) hs hpl))
  obtain ⟨a, b, xs, ys, ex, hqx, hqy, hsz0, q⟩ := q1
  subst ex
  cases r1 with
  | cons r rr =>
    cases rr with
    | cons r' rr =>
      cases rr
      cases r
      cases r'
      obtain ⟨its, rv, p1, _⟩ := I1.list hqx
      obtain ⟨its2, rv2, p2', _⟩ := I1.list hqy
      have la : a < s1.heap.objs.size := p1.lt
      have lb : b < s1.heap.objs.size := p2'.lt
      have l1 := rv.length
      have l2 := rv2.length
      refine call_zip_2 p1.isList p2'.isList fun h' hz hTI hTO h1 h2 hsz hk => args_nil ?_
      have D := PySem.W.ktu_apart s1.heap.objs.size a b la lb
      refine ZipL.call (s := { s1 with heap := h' }) (I1.ok.hd hc) D (fun c hcm => ?_) (by rw [List.size_toArray, List.size_toArray, ← l1, ← l2]; exact hsz0) hz ⟨hTI, h1, h2, p1.isList.at fun o e => hk _ o e, p2'.isList.at fun o e => hk _ o e, _, _, hTO⟩ fun g' tk acc c as hkeep hS hlen hP hacc => ?_
      · show c < h'.objs.size
        rw [hsz]
        simp only [List.mem_cons, List.not_mem_nil, or_false] at hcm
        have la' : (a : Nat) < s1.heap.objs.size := la
        have lb' : (b : Nat) < s1.heap.objs.size := lb
        have key : ∀ n : Nat, (c : Nat) = n → n < s1.heap.objs.size + 5 → (c : Nat) < s1.heap.objs.size + 5 := fun n e l => by rw [e]; exact l
        rcases hcm with z | z | z | z | z | z | z
        · exact key _ z (by omega)
        · exact key _ z (by omega)
        · exact key _ z (by omega)
        · exact key _ z (by omega)
        · exact key _ z (by omega)
        · exact key _ z (Nat.lt_of_lt_of_le la (Nat.le_add_right _ _))
        · exact key _ z (Nat.lt_of_lt_of_le lb (Nat.le_add_right _ _))
      · have hz5 : h'.objs.size = s1.heap.objs.size + 5 := hsz
        have old : ∀ c o, s1.heap.get? c = some o → g'.get? c = some o := fun c o e => by
          have hl := Heap.lt_size e
          have ne : ∀ k : Nat, c ≠ s1.heap.objs.size + k := fun k => Nat.ne_of_lt (Nat.lt_of_lt_of_le hl (Nat.le_add_right _ _))
          exact hkeep c o (ne 4) (ne 3) (Nat.ne_of_lt hl) (ne 1) (hk c o e)
        have I2 : Inv X pins σ H1 { s1 with heap := g', toks := tk } := I1.kept old
        have hlen' : as.length = min xs.length ys.length := by rw [hlen, List.size_toArray, List.size_toArray, ← l1, ← l2]
        have hnd : as.Nodup := hP.rise.imp fun {x y} hxy => Nat.ne_of_lt hxy
        have habove : ∀ t ∈ as, s1.heap.objs.size ≤ t ∧ t ≠ h'.objs.size := fun t ht => by
          have h0 : h'.objs.size < t := hP.above t ht
          refine ⟨?_, Nat.ne_of_gt h0⟩
          rw [hz5] at h0
          exact Nat.le_of_lt (Nat.lt_of_le_of_lt (Nat.le_add_right _ _) h0)
        have hfr : ∀ t ∈ as, H1 t = none := fun t ht => I1.hok.fresh (habove t ht).1
        have hSf : H1 h'.objs.size = none := I1.hok.fresh (by rw [hz5]; exact Nat.le_add_right _ _)
        have I3 := track I1 as (xs.zip ys) H1 I2 hnd (fun t ht => ⟨(habove t ht).1, hfr t ht⟩) fun j t hj => by
          obtain ⟨u, u2, e1, e2, e3⟩ := hP.pairs j t hj
          have e1 : its[j]? = some u := by simpa using e1
          have e2 : its2[j]? = some u2 := by simpa using e2
          have j1 : j < xs.length := by rw [l1]; exact (List.getElem?_eq_some_iff.mp e1).1
          have j2 : j < ys.length := by rw [l2]; exact (List.getElem?_eq_some_iff.mp e2).1
          obtain ⟨u', hu', ru⟩ := rv.get (List.getElem?_eq_getElem j1)
          obtain ⟨u2', hu2', ru2⟩ := rv2.get (List.getElem?_eq_getElem j2)
          rw [hu'] at e1; cases e1
          rw [hu2'] at e2; cases e2
          refine ⟨(xs[j], ys[j]), u, u2, ?_, ru, ru2, e3⟩
          rw [List.getElem?_zip_eq_some]
          exact ⟨List.getElem?_eq_getElem j1, List.getElem?_eq_getElem j2⟩
        have hSn : layP H1 as (xs.zip ys) h'.objs.size = none := layP_none hSf fun t ht => (habove t ht).2
        refine ⟨.ref h'.objs.size, _, I3.take (t' := tk) (h' := g') (o := .lst (as.map V.ref)) (fun _ _ _ q => q) (I1.fpOk (by show s1.heap.objs.size ≤ h'.objs.size; rw [hz5]; exact Nat.le_add_right _ _) hSn) ⟨?_, acc.toList, c, ?_, ?_⟩, rfl, q as _ hlen' hnd (fun t ht => ⟨hfr t ht, (habove t ht).2⟩) hSf⟩
        · rw [List.length_map, hlen']; exact hsz0
        · rw [hacc]
          clear hlen hP hacc hlen' hnd habove hfr I3 hSn
          induction as with
          | nil => exact .nil
          | cons t as ih => exact .cons rfl ih
        · rw [Array.toArray_toList]; exact hS
end Fu

set_option maxHeartbeats 4000000
/-! list(zip(xs, ys)) in the mirror; defs that give two new lists -/
namespace Fu
open PySem PySem.Spec PyProof.Rows L2
variable [TabsC]
def gListZip (gs : M (List D)) : M D := fun S => (gs S).bind fun p => match p.1 with
  | [.list xs, .list ys] => some (.list (zipD xs ys), p.2)
  | _ => none
theorem zips {K : PySem.W.Frag} {A : List Addr} {S : Sx} {σ : L2.St} : ∀ (as : List Addr) {vs us : List V} {ds es : List D} {F H : Hp}, Ok K A F H S σ → Rps K F vs ds → Rps K F us es → as.length = min vs.length us.length → as.Nodup → (∀ t ∈ as, H t = none) →
    ∃ F', SameT F F' ∧ Ok K A F' (layP H as (vs.zip us)) S σ ∧ Rps K F' (as.map V.ref) (zipD ds es)
  | [], vs, us, ds, es, F, H, k, r1, r2, hl, _, _ => by
    refine ⟨F, SameT.refl F, ?_, ?_⟩
    · cases vs with
      | nil => exact k
      | cons v vs =>
        cases us with
        | nil => exact k
        | cons u us => simp at hl
    · cases r1 with
      | nil => exact .nil
      | cons _ _ =>
        cases r2 with
        | nil => exact .nil
        | cons _ _ => simp at hl
  | a :: as, vs, us, ds, es, F, H, k, r1, r2, hl, nd, fr => by
    cases r1 with
    | nil => simp at hl
    | cons p1 r1 =>
      cases r2 with
      | nil => simp at hl
      | cons p2 r2 =>
        rw [List.nodup_cons] at nd
        simp only [List.length_cons] at hl
        obtain ⟨s1, k1, q1⟩ := k.newTup (fr a List.mem_cons_self) (.cons p1 (.cons p2 .nil)) (show 2 ≤ sizeLine by decide)
        obtain ⟨F', s2, k2, q2⟩ := zips as k1 (Rps.mono s1 _ _ r1) (Rps.mono s1 _ _ r2) (by omega) nd.2 fun t ht => by
          rw [upd_ne (show t ≠ a from fun z => by subst z; exact nd.1 ht)]
          exact fr t (List.mem_cons_of_mem _ ht)
        exact ⟨F', s1.trans s2, k2, .cons (q1.mono s2 _ _) q2⟩
section
variable {X : Cx} {pos p p2 p3 py : Pos} {x y : Str} {e e2 ek : Expr} {es : List Expr} {gs : M (List D)} {ge gk : M D} {k n : Nat} {ps : List Str}
theorem n_listZip (hm : X.mg "list" = none) (hm2 : X.mg "zip" = none) (ha : GA X [e, e2] gs) (hc : X.calm = true := by rfl) (hg : Gl X "list" := by rfl) (hg2 : Gl X "zip" := by rfl)
    (hs : starEach [e, e2] X.env = (false, eval e X.env) :: starEach [e2] X.env := by rfl) (hpl : (backTo p3 (starEach [e2] X.env)).any (·.1) = false := by rfl)
    (na : starEach [.Call (.Name "zip" p2) [e, e2] [] p3] X.env = (false, eval (.Call (.Name "zip" p2) [e, e2] [] p3) X.env) :: starEach [] X.env := by rfl) :
    GN X (.Call (.Name "list" p) [.Call (.Name "zip" p2) [e, e2] [] p3] [] pos) (gListZip gs) := by
  obtain ⟨t, pa, ra⟩ := ha.ex
  refine ⟨_, pe_listZip hc hg hm hg2 hm2 pa hs hpl na, fun A F H S σ d S' Q k h post => ?_⟩
  obtain ⟨⟨xs, S1⟩, h1, h⟩ := bind_inv h
  simp only at h
  split at h
  case h_2 => cases h
  rename_i ds es'
  cases h
  refine ra A F H S σ _ _ _ k h1 fun A1 F1 H1 vs p1 s1 k1 r1 => ?_
  obtain ⟨v, u, rfl, q1, q2⟩ := rps2 r1
  obtain ⟨a, ws, rfl, g1, g2, g3⟩ := rp_list_inv q1
  obtain ⟨b, us, rfl, f1, f2, f3⟩ := rp_list_inv q2
  refine ⟨a, b, ws, us, rfl, SqL.of (k1.sub.same _ _ g1), SqL.of (k1.sub.same _ _ f1), by rw [g2.length]; exact Nat.le_trans (Nat.min_le_left _ _) g3, fun as T hl nd fr hT => ?_⟩
  obtain ⟨F2, s2, k2, r2⟩ := zips as k1 g2 f2 hl nd fun t ht => (fr t ht).1
  exact post A1 F2 _ T _ _ p1 (s1.trans s2) k2 (layP_none hT fun t ht => (fr t ht).2) rfl r2 (Nat.le_trans (zipD_len _ _) g3)
/-! #### defs that give two new lists in a tuple -/
def spN2 (K : PySem.W.Frag) (n : Nat) (f : List D → Option (List D × List D)) : Sp := fun vs H Q _ => ∃ ds zs us, ds.length = n ∧ Rps K H vs ds ∧ f ds = some (zs, us) ∧ LamX.Tabs TabsC.T H ∧
  ∀ F p a b xs ys, SameT H F → F a = none → F b = none → a ≠ b → F p = some (.tup [.ref a, .ref b]) → Rps K F xs zs → Rps K F ys us → zs.length ≤ sizeLine → us.length ≤ sizeLine → Q (.ref p) (upd (upd F a (.lst xs)) b (.lst ys))
theorem spN2_len {K : PySem.W.Frag} {n : Nat} {f : List D → Option (List D × List D)} {ps : List Str} (h : ps.length = n) : ∀ vs H Q E, spN2 K n f vs H Q E → vs.length = ps.length := by
  intro vs H Q E ⟨ds, z, u, e, r, _⟩
  rw [r.length, e, h]
def mN2 (n : Nat) (g : Sx → Option Out) : List D → Option (List D × List D) := fun ds => (g ⟨initS n ds, []⟩).bind fun o => match o with
  | .rs (.tup [.own i, .own j]) S => if i = j then none else (cellOf S i).bind fun zs => (cellOf S j).bind fun us => some (zs, us)
  | _ => none
end
section
variable {P : Program} {w : World} {K : PySem.W.Frag} {mg : Str → Option Value} {base : Heap} {x qual : Str} {st : Stmt} {f : Addr} {fd : FuncData} {N ps : List Str} {k n : Nat} {g : Sx → Option Out}
theorem fn_new2 (F : Fun K x qual st f fd) (S : FnScope N ps (defScope st)) (hn : ps.length = n) (hN : n ≤ N.length)
    (body : ∀ (cdv : Value) (A : Around) (outer : List Env) (s : Shared) (H : Hp) (E : XK), Room k (A.deeper (envOfC qual (defScope st) s.heap.objs.size f cdv)) → GSs (cxF P w K mg base N qual st f cdv A outer s H E) AnyB (defBody st) g) :
    FnOk P w K mg base CX0 (k + 1) f fd ps (spN2 K n (mN2 N.length g)) := by
  refine F.ok S (spN2_len hn) fun cdv A outer s H vs Q E hr h => ?_
  obtain ⟨ds, zs, us, hd, r, e, tb, post⟩ := h
  obtain ⟨t, p, rd⟩ := (body cdv A outer s H E hr).ex
  refine ⟨t, p, ?_⟩
  obtain ⟨o, e1, e⟩ := bind_inv e
  have hl : vs.length ≤ N.length := by rw [r.length, hd]; exact hN
  refine rd H [] [] H H _ (L2.start N vs) o _ trivial (SameT.refl H) (List.prefix_refl _) (start_dat r hl (Sub.refl H) tb) e1 ?_

  split at e
  case h_2 => cases e
  rename_i i j S
  split at e
  case isTrue => cases e
  rename_i hij
  obtain ⟨zs', e2, e⟩ := bind_inv e
  obtain ⟨us', e3, e⟩ := bind_inv e
  cases e
  intro A1 F1 H1 σ1 v s1 p1 k1 q
  cases q with
  | tup hF hr hz =>
    cases hr with
    | cons q1 hr =>
      cases hr with
      | cons q2 hr =>
        cases hr
        cases q1 with
        | own ha =>
          cases q2 with
          | own hb =>
            rename_i p a b
            obtain ⟨xs, _, fa, hva, rca, hza⟩ := cell_at k1 e2 ha
            obtain ⟨ys, _, fb, hvb, rcb, hzb⟩ := cell_at k1 e3 hb
            have hab : a ≠ b := fun z => by
              subst z
              obtain ⟨l1, q1⟩ := List.getElem?_eq_some_iff.mp ha
              obtain ⟨l2, q2⟩ := List.getElem?_eq_some_iff.mp hb
              exact hij ((List.getElem_inj k1.nd).mp (q1.trans q2.symm))
            have sF : SameT F1 (lessH (lessH H1 a) b) := L2.Same.t fun c o q => by
              show (if c = b then none else (if c = a then none else H1 c)) = some o
              rw [if_neg (ne_of_none q fb), if_neg (ne_of_none q fa)]
              exact k1.sub.same c o q
            have := post (lessH (lessH H1 a) b) p a b xs ys (s1.trans sF) (by show (if a = b then none else (if a = a then none else H1 a)) = none; rw [if_neg hab, if_pos rfl]) (if_pos rfl) hab (by
              have hp := sF.old p _ hF trivial
              exact hp) (Rps.mono sF _ _ rca) (Rps.mono sF _ _ rcb) hza hzb
            have e9 : upd (upd (lessH (lessH H1 a) b) a (.lst xs)) b (.lst ys) = H1 := by
              funext c
              by_cases c1 : c = b
              · subst c1; rw [upd_same, hvb]
              · rw [upd_ne c1]
                by_cases c2 : c = a
                · subst c2; rw [upd_same, hva]
                · rw [upd_ne c2]
                  show (if c = b then none else (if c = a then none else H1 c)) = H1 c
                  rw [if_neg c1, if_neg c2]
            rwa [e9] at this
end
end Fu

set_option maxHeartbeats 4000000
/-! defs that give two new lists: called; a list in a tuple added to -/
namespace Fu
open PySem PySem.Spec PyProof.Rows L2
variable [TabsC]
section
variable {P : Program} {w : World} {K : PySem.W.Frag} {mg : Str → Option Value} {base : Heap} {x : Str} {st : Stmt} {N ps : List Str} {k n : Nat} {g : Sx → Option Out}
theorem has_new2 (D : DefAt K mg x st ps) (S : FnScope N ps (defScope st)) (hn : ps.length = n) (hN : n ≤ N.length) (body : Body P w K mg base N x st k AnyB g) : Has P w K mg base x (k + 1) ps (spN2 K n (mN2 N.length g)) :=
  let ⟨f, fd, m, F, b⟩ := D; ⟨f, fd, m, F.kp, b, fn_new2 F S hn hN (body f)⟩
end
section
variable {X : Cx} {pos p p2 p3 py apos cpos : Pos} {x y : Str} {e e2 ek : Expr} {es : List Expr} {gs : M (List D)} {ge gk : M D} {k n : Nat} {ps : List Str}
end
end Fu

set_option maxHeartbeats 4000000
/-! a def that gives two new lists, its answer held as data -/
namespace Fu
open PySem PySem.Spec PyProof.Rows L2
variable [TabsC]
def asT2 (f : List D → Option (List D × List D)) : List D → Option D := fun ds => (f ds).bind fun z => some (.tuple [.list z.1, .list z.2])
theorem spN2_F {K : PySem.W.Frag} {n : Nat} {f : List D → Option (List D × List D)} : ∀ vs H Q E, spF K n (asT2 f) vs H Q E → spN2 K n f vs H Q E := by
  intro vs H Q E ⟨ds, z, hd, r, e, tb, post⟩
  obtain ⟨⟨zs, us⟩, e1, e⟩ := bind_inv e
  cases e
  refine ⟨ds, zs, us, hd, r, e1, tb, fun F p a b xs ys s ha hb hab hp ru rw' h1 h2 => ?_⟩
  have s1 : SameT F (upd F a (.lst xs)) := same_upd ha
  have hb1 : (upd F a (.lst xs)) b = none := by rw [upd_ne (show b ≠ a from fun z => hab z.symm)]; exact hb
  have s2 : SameT (upd F a (.lst xs)) (upd (upd F a (.lst xs)) b (.lst ys)) := same_upd hb1
  have ra : Rp K (upd F a (.lst xs)) (.ref a) (.list zs) := .lst upd_same (Rps.mono s1 _ _ ru) h1
  have rb : Rp K (upd (upd F a (.lst xs)) b (.lst ys)) (.ref b) (.list us) := .lst upd_same (Rps.mono (s1.trans s2) _ _ rw') h2
  exact post _ _ (s.trans (s1.trans s2)) (.tup ((s1.trans s2).old p _ hp trivial) (.cons (ra.mono s2 _ _) (.cons rb .nil)) (show 2 ≤ sizeLine by decide))
theorem Has.ofN2 {P : Program} {w : World} {K : PySem.W.Frag} {mg : Str → Option Value} {base : Heap} {x : Str} {k n : Nat} {ps : List Str} {f : List D → Option (List D × List D)} (h : Has P w K mg base x k ps (spN2 K n f)) : Has P w K mg base x k ps (spF K n (asT2 f)) := h.imp spN2_F
end Fu

set_option maxHeartbeats 4000000
/-! an own dict made empty, updated by {k: v for ..}, asked for a key -/
namespace Fu
open PySem PySem.Spec PyProof.Rows L2 RZ
variable [TabsC]
section
variable {X : Cx} {pins : List (Addr × Obj)} {σ : L2.St} {H : Hp} {s : Shared} {a b : Addr}
end
section
variable {X : Cx} {P : Hp → Prop} {pos pd p2 py apos cpos : Pos} {x y : Str} {e : Expr} {g : MD} {gk : M D} {n : Nat}
end
end Fu

set_option maxHeartbeats 4000000
/-! a def whose second argument is a list of one's own that it uses up; list(xs) of an own list -/
namespace Fu
open PySem PySem.Spec PyProof.Rows L2
variable [TabsC]
/-- an own cell is given up, its object written and known for good -/
theorem Ok.drop {K : PySem.W.Frag} {A : List Addr} {F H : Hp} {S : Sx} {σ : L2.St} (k : Ok K A F H S σ) {j : Nat} {a : Addr} {o : HO} {c : Cell} (hj : S.os[j]? = some (some c)) (ha : A[j]? = some a) (l : Loose o) :
    Ok K A (upd F a o) (upd H a o) { S with os := S.os.set j none } σ := by
  obtain ⟨a', e1, fa, _⟩ := k.cell j c hj
  rw [ha] at e1; cases e1
  have sm : SameT F (upd F a o) := same_upd fa
  refine ⟨⟨fun b u q => ?_, fun b u q n => ?_⟩, k.len, by simp [k.alen], k.nd, fun i r h => ?_, fun i d h => ?_, fun b h => ?_, sm.tab k.tab⟩
  · by_cases hb : b = a
    · subst hb; rw [upd_same] at q ⊢; exact q
    · rw [upd_ne hb] at q ⊢; exact k.sub.same b u q
  · by_cases hb : b = a
    · subst hb; rw [upd_same] at n; cases n
    · rw [upd_ne hb] at n q; exact k.sub.loose b u q n
  · obtain ⟨v, e1, q⟩ := k.rslot i r h
    exact ⟨v, e1, q.mono (List.prefix_refl _) sm _ _⟩
  · by_cases hi : j = i
    · subst hi
      have hlt := (List.getElem?_eq_some_iff.mp hj).1
      rw [List.getElem?_set_self hlt] at h
      cases h
    · rw [List.getElem?_set_ne hi] at h
      obtain ⟨b, e1, f, q⟩ := k.cell i d h
      have hb : b ≠ a := fun z => hi (idx_nodup k.nd ha (z ▸ e1))
      exact ⟨b, e1, by rw [upd_ne hb]; exact f, q.mono (List.prefix_refl _) sm fun u hu => by rw [upd_ne hb]; exact hu⟩
  · by_cases hb : b = a
    · exact ⟨o, by rw [hb, upd_same], l⟩
    · obtain ⟨u, hu, lu⟩ := k.trk b h
      exact ⟨u, by rw [upd_ne hb]; exact hu, lu⟩
section
variable {P : Program} {w : World} {K : PySem.W.Frag} {mg : Str → Option Value} {base : Heap} {x qual : Str} {st : Stmt} {f : Addr} {fd : FuncData} {N ps : List Str} {k n : Nat} {g : Sx → Option Out}
end
section
variable {X : Cx} {pos p py : Pos} {x y : Str} {e : Expr} {es : List Expr} {ge : M D} {gs : M (List D)} {k n : Nat} {ps : List Str}
end
end Fu

set_option maxHeartbeats 4000000
/-! a list of new lists: made by a comprehension, one of them added to, told; a def that writes a list just made -/
namespace Fu
open PySem PySem.Spec PyProof.Rows L2
variable [TabsC]
section
variable {K : PySem.W.Frag}
end
def trOf (K : PySem.W.Frag) (g : Sx → Option (R × Sx)) : TE := fun σ H Q => ∃ A F S r S', Ok K A F H S σ ∧ g S = some (r, S') ∧ ∀ A' F' H' v, A <+: A' → SameT F F' → Ok K A' F' H' S' σ → Rr K A' F' v r → Q v H'
theorem GR.pe {X : Cx} {e : Expr} {g : Sx → Option (R × Sx)} (h : GR X e g) : PE X e (trOf X.K g) := by
  obtain ⟨t, p, r⟩ := h.ex
  exact ⟨fun pins s σ H Q I ⟨A, F, S, d, S', k, e, post⟩ => p.run pins s σ H Q I (r A F H S σ d S' Q k e post)⟩
section
variable {X : Cx} {P : Hp → Prop} {pos spos py : Pos} {y : Str} {elt tg iter : Expr} {ifs : List Expr} {scope : Scope} {gi : M (List D)} {gg : D → Sx → Option Sx} {gt : M Bool} {gr : Sx → Option (R × Sx)} {tgt : List Nat}
end
section
variable {X : Cx} {pos p p2 p3 py apos cpos : Pos} {x y : Str} {e e2 ek : Expr} {es : List Expr} {gs : M (List D)} {ge gk : M D} {gn : Sx → Option (R × Sx)} {k n : Nat} {ps : List Str}
end
end Fu

set_option maxHeartbeats 4000000
/-! defs that give a new list of new lists; the least of what they give, as a new list -/
namespace Fu
open PySem PySem.Spec PyProof.Rows L2
variable [TabsC]
section
variable {P : Program} {w : World} {K : PySem.W.Frag} {mg : Str → Option Value} {base : Heap} {x qual : Str} {st : Stmt} {f : Addr} {fd : FuncData} {N ps : List Str} {k n : Nat} {g : Sx → Option Out}
end
section
variable {X : Cx} {pos p p2 pos2 : Pos} {x : Str} {e : Expr} {es : List Expr} {gs : M (List D)} {k n : Nat} {ps : List Str}
end
section
variable {X : Cx} {P : Hp → Prop} {pos apos py lpos : Pos} {y : Str} {e elt tg iter : Expr} {ifs : List Expr} {scope : Scope} {gi : M (List D)} {gg : D → Sx → Option Sx} {gt : M Bool} {gr : Sx → Option (R × Sx)} {tgt : List Nat}
end
end Fu

set_option maxHeartbeats 4000000
/-! range with a step; x *= e; xs[i] += e of a list of one's own -/
namespace Fu
open PySem PySem.Spec PyProof.Rows L2
variable [TabsC]
def rngC (lo c : Int) (n : Nat) : List D := (List.range n).map fun i : Nat => .int (lo + (i : Int) * c)
theorem rngC_len (lo c : Int) (n : Nat) : (rngC lo c n).length = n := by simp [rngC]
theorem walk_rangeC {K : PySem.W.Frag} {F : Hp} (lo c : Int) (n : Nat) : Walk K F (Itc lo c n) (rngC lo c n) where
  stop := fun i H s hi => by
    have : n ≤ i := by simpa [rngC] using hi
    exact this
  go := fun i H s hi => by
    have : i < n := by simpa [rngC] using hi
    exact this
  yld := fun i d H v H' s hd y => by
    obtain ⟨e, rfl⟩ := y
    unfold rngC at hd
    rw [List.getElem?_map] at hd
    obtain ⟨j, hj, rfl⟩ := Option.map_eq_some_iff.mp hd
    rw [List.getElem?_range (by
      have := (List.getElem?_eq_some_iff.mp hj).1
      simpa using this)] at hj
    cases hj
    exact .inl ⟨e, .int _⟩
def sizeC (i j c : Int) : Nat := (Builtin.Range.rangeSize i j c).toNat
def gRng3 (g : M (List D)) : M (List D) := fun S => (g S).bind fun p => match p.1 with
  | [.int i, .int j, .int c] => if 0 < c ∧ c ≤ 1000000 ∧ -1000000000 ≤ i ∧ i ≤ 1000000000 ∧ -1000000000 ≤ j ∧ j ≤ 1000000000 ∧ Builtin.Range.small i j c = true ∧ sizeC i j c ≤ sizeLine then some (rngC i c (sizeC i j c), p.2) else none
  | _ => none
theorem rps_int3 {K : PySem.W.Frag} {F : Hp} {vs : List V} {i j c : Int} (r : Rps K F vs [.int i, .int j, .int c]) : vs = [.int i, .int j, .int c] := by
  cases r with
  | cons a r =>
    cases r with
    | cons b r =>
      cases r with
      | cons d r =>
        cases r
        cases rp_int_inv a; cases rp_int_inv b; cases rp_int_inv d; rfl
theorem rd_rng3 {K : PySem.W.Frag} {ta : TA} {gs : M (List D)} (ra : RdA K ta gs) : ∀ A F H S σ ds S' (R : It → Hp → Prop), Ok K A F H S σ → gRng3 gs S = some (ds, S') →
    (∀ A' F' H' J, A <+: A' → SameT F F' → Ok K A' F' H' S' σ → (∀ G, Walk K G J ds) → ds.length ≤ sizeLine → R J H') → iRng3 ta σ H R := by
  intro A F H S σ ds S' R k e post
  obtain ⟨⟨xs, S1⟩, h1, e⟩ := bind_inv e
  simp only at e
  split at e
  · split at e
    · rename_i i j c hj
      cases e
      obtain ⟨c0, c1, _, _, _, _, hs, hz⟩ := hj
      refine ra A F H S σ _ _ _ k h1 fun A1 F1 H1 vs p1 s1 k1 r1 => ?_
      exact ⟨i, j, c, _, rps_int3 r1, ⟨by omega, by omega, hs, rangeSize_toNat i j c⟩, post A1 F1 H1 _ p1 s1 k1 (fun G => walk_rangeC i c _) (by rw [rngC_len]; exact hz)⟩
    · cases e
  · cases e
section
variable {X : Cx} {P : Hp → Prop} {tg e e2 e3 b : Expr} {gs : M (List D)} {ge gk : M D} {p pos py : Pos} {y : Str}
theorem i_range3 (hm : X.mg "range" = none) (ha : GA X [e, e2, e3] gs) (hg : Gl X "range" := by rfl) (hs : starEach [e, e2, e3] X.env = (false, eval e X.env) :: starEach [e2, e3] X.env := by rfl) (hpl : (backTo pos (starEach [e2, e3] X.env)).any (·.1) = false := by rfl) : GI X tg (.Call (.Name "range" p) [e, e2, e3] [] pos) (gRng3 gs) := by
  obtain ⟨t, pa, ra⟩ := ha.ex
  exact ⟨_, pi_range3 hg hm pa hs hpl, fun A F H S σ ds S' R k e post => rd_rng3 ra A F H S σ ds S' R k e fun A1 F1 H1 J p1 s1 k1 w hz => post A1 F1 H1 J p1 s1 k1 (w _) hz⟩
def ipMul : TIp := fun x y H Q => ∃ i j, x = .int i ∧ y = .int j ∧ CMulW i j ∧ Q (.int (i * j)) H
theorem ip_mulW : PIp X .Mult ipMul := by
  intro pins s σ H x y v u Q I r1 r2 h
  obtain ⟨i, j, e1, e2, hc, q⟩ := h
  subst e1; subst e2
  obtain ⟨t, rfl⟩ := r1
  obtain ⟨t', rfl⟩ := r2
  exact imul_int ⟨.int _, H, I.tok _, ⟨_, rfl⟩, q⟩ hc.ok
def qAugM (i : Nat) (ge : M D) : Sx → Option Out := fun S => match S.sl[i]? with
  | some (some (.dat (.int a))) => (ge S).bind fun p => match p.1 with
    | .int c => if a.natAbs.log2 + c.natAbs.log2 < 1000000 then some (.nx ⟨p.2.sl.set i (some (.dat (.int (a * c)))), p.2.os⟩) else none
    | _ => none
  | _ => none
theorem s_augM (i : Nat) (hN : X.N.Nodup) (he : GE X e ge) (hx : Loc X.env.scope y := by first | exact Or.inl rfl | exact Or.inr rfl) (hi : X.N[i]? = some y := by rfl)
    (hf : X.fn y = true ∨ X.env.scope.names.lookup y = some .local := by first | exact .inl rfl | exact .inr rfl | assumption) : GS X P (.AugAssign (.Name y py) .Mult e pos) (qAugM i ge) := by
  obtain ⟨t, pe, re⟩ := he.ex
  refine ⟨_, ps_aug hN hi hx pe ip_mulW hf, fun B A0 A F H S σ o E hP s p k h post => ?_⟩
  unfold qAugM at h
  split at h
  case h_2 => cases h
  rename_i a ea
  obtain ⟨⟨d, S1⟩, e1, h⟩ := bind_inv h
  cases d <;> simp only at h <;> try cases h
  split at h
  case isFalse => cases h
  rename_i hc
  cases h
  obtain ⟨v, ev, rv⟩ := k.slot i _ ea
  cases rp_int_inv rv
  refine ⟨_, ev, re A F H S σ _ S1 _ k e1 fun A1 F1 H1 v p1 s1 k1 r1 => ?_⟩
  cases rp_int_inv r1
  exact ⟨_, _, rfl, rfl, hc, post A1 F1 H1 _ (s.trans s1) (p.trans p1) (k1.setDat (.int _))⟩
def rGetL (K : PySem.W.Frag) : V → V → Hp → VK → Prop := fun x y H Q => ∃ p xs i v, x = .ref p ∧ y = .int i ∧ SqL K H p xs ∧ 0 ≤ i ∧ xs[i.toNat]? = some v ∧ Q v H
theorem get_list : PGet X (rGetL X.K) := by
  intro pins s σ H x y v u Q I rx ry h
  obtain ⟨p, xs, i, z, rfl, rfl, hq, h0, he, q⟩ := h
  cases rx
  obtain ⟨t, rfl⟩ := ry
  obtain ⟨its, r, pl, hz⟩ := I.list hq
  obtain ⟨w, ew, rw'⟩ := r.get he
  have hl := r.length
  have hn := line63
  have hlt := (List.getElem?_eq_some_iff.mp he).1
  have fin : EP X pins σ Q w s := ⟨z, H, I, rw', q⟩
  exact wpAny_getItem_list (Q := fun r s' => EP X pins σ Q r s') pl.isList h0 (by omega) (by simpa using ew) fin
/-- xs[k] += e, xs a list of one's own -/
def qAugIx (i : Nat) (gk ge : M D) : Sx → Option Out := fun S => (ownOf S i).bind fun o => (gk S).bind fun p => match p.1 with
  | .int k => (cellOf p.2 o.1).bind fun cs => if 0 ≤ k then match cs[k.toNat]? with
    | some (.int a) => (ge p.2).bind fun q => match q.1 with
      | .int c => (cellOf q.2 o.1).bind fun ds => if k.toNat < ds.length then some (.nx (setCell q.2 o.1 (ds.set k.toNat (.int (a + c))))) else none
      | _ => none
    | _ => none
    else none
  | _ => none
theorem s_augIx {spos tpos : Pos} (i : Nat) (hb : GE X b gk) (he : GE X e ge) (hN : X.N[i]? = some y := by rfl) (hv : Vis X.env.scope y := by first | exact Or.inl rfl | exact Or.inr (Or.inl rfl) | exact Or.inr (Or.inr rfl)) (hdy : (y == ("__debug__" : Str)) = false := by decide) (hcd : (y == ("__classdict__" : Str)) = false := by decide)
    (hau : ∀ ov iv new, augStore b ov iv new = (do holding [new, ov, iv] (setItem ov iv new); release [new, ov, iv] []; pure .next) := by intros; rfl) :
    GS X P (.AugAssign (.Subscript (.Name y py) b tpos) .Add e spos) (qAugIx i gk ge) := by
  obtain ⟨t, pe, re⟩ := he.ex
  obtain ⟨u, pb, rb⟩ := hb.ex
  refine ⟨_, ps_augS (pe_var hN hv hdy hcd) pb get_list pe ip_add set_list hau, fun B A0 A F H S σ o E hP s p k h post => ?_⟩
  obtain ⟨⟨j, cs0⟩, e0, h⟩ := bind_inv h
  obtain ⟨⟨x, S1⟩, e1, h⟩ := bind_inv h
  cases x <;> simp only at h <;> try cases h
  rename_i kk
  obtain ⟨cs, e2, h⟩ := bind_inv h
  split at h
  case isFalse => cases h
  rename_i h0
  split at h
  case h_2 => cases h
  rename_i a ha
  obtain ⟨⟨z, S2⟩, e3, h⟩ := bind_inv h
  cases z <;> simp only at h <;> try cases h
  rename_i c
  obtain ⟨ds, e4, h⟩ := bind_inv h
  split at h
  case isFalse => cases h
  rename_i hlt
  cases h
  obtain ⟨ad, vs0, _, _, ha', ev, _, hv0, _, _⟩ := own_at k e0
  refine ⟨_, ev, rb A F H S σ _ S1 _ k e1 fun A1 F1 H1 w p1 s1 k1 r1 => ?_⟩
  cases rp_int_inv r1
  obtain ⟨vs, ec, fa, hv', rr, hz⟩ := cell_at k1 e2 (prefix_at p1 ha')
  obtain ⟨q, hq, rq⟩ := rr.get ha
  cases rp_int_inv rq
  refine ⟨ad, vs, kk, _, rfl, rfl, SqL.of hv', h0, hq, re A1 F1 H1 S1 σ _ S2 _ k1 e3 fun A2 F2 H2 w2 p2 s2 k2 r2 => ?_⟩
  cases rp_int_inv r2
  refine ⟨a, c, rfl, rfl, ?_⟩
  obtain ⟨us, ec2, fa2, hv2, rr2, hz2⟩ := cell_at k2 e4 (prefix_at p2 (prefix_at p1 ha'))
  refine ⟨ad, us, kk, kk.toNat, rfl, rfl, hv2, by rw [rr2.length]; unfold ixN; rw [if_pos h0, if_pos (by omega)], ?_⟩
  exact post A2 F2 _ _ (s.trans (s1.trans s2)) (p.trans (p1.trans p2)) (k2.cellSet ec2 (prefix_at p2 (prefix_at p1 ha')) trivial ⟨_, upd_same, Rps.set _ (.int _) rr2, by rw [List.length_set]; exact hz2⟩)
end
end Fu

set_option maxHeartbeats 4000000
/-! what raises before anything else: told beside the promise of a def that does not raise -/
namespace Fu
open PySem PySem.Spec PyProof.Rows L2 RZ
variable [TabsC]
def errOf {α : Type} (g : Sx → Option (Zr α)) : Sx → Option (Str × Sx) := fun S => match g S with
  | some (.error e) => some e
  | _ => none
/-- an iterable whose making raises -/
structure GIX (X : Cx) (W : WX) (tg e : Expr) (g : Sx → Option (Str × Sx)) : Prop where
  ex : ∃ t, PI X tg e t ∧ ∀ A F H S σ r R, Ok X.K A F H S σ → g S = some r → ZErr X.K W A F r → t σ H R
section
variable {X : Cx} {P : Hp → Prop} {W : WX} {tg e elt iter : Expr} {ifs : List Expr} {scope : Scope} {ge : Sx → Option (Zr (D × Sx))} {gi : Sx → Option (Str × Sx)} {gg : D → Sx → Option Sx} {gt : M Bool} {gl : M D} {g : Sx → Option Out} {tgt : List Nat} {pos spos py : Pos} {y : Str} {body : List Stmt}
theorem ixx_any (h : GEZ X W e ge) : GIX X W tg e (errOf ge) := by
  obtain ⟨t, pe, re⟩ := h.ex
  refine ⟨_, PI.or (pi_list pe) (PI.or (pi_tup pe) (pi_str pe)), fun A F H S σ r R k e1 err => ?_⟩
  unfold errOf at e1
  split at e1
  · rename_i r' hr
    cases e1
    exact .inl (re A F H S σ _ _ k hr (fun d S' z => by cases z) fun e ee => by cases ee; exact err)
  · cases e1
def zErr {α : Type} (g : Sx → Option (Str × Sx)) : Sx → Option (Zr α) := fun S => (g S).map .error
theorem ez_lcX (own : List (Str × Nat)) (hN : X.N.Nodup) (hi : GIX X W tg iter gi) (ok : BlkOk X.N X.env.scope scope own) (hg : InBlk X scope fun Y => GG Y tgt tg gg) (ht : InBlk X scope fun Y => GTs Y ifs gt) (he : InBlk X scope fun Y => GE Y elt gl)
    (hc : X.calm = true := by rfl) (hs : ∀ x, foldedSetIterable iter X.env x = pure x := by intro _; rfl) : GEZ X W (.ListComp elt [⟨tg, iter, ifs, 0⟩] scope pos) (zErr gi) := by
  obtain ⟨t, pi, ri⟩ := hi.ex
  refine ⟨_, pe_lc (g := gFr (gOf X.K tgt gg)) (tt := tFrT (ttOf X.K gt)) (te := tFr (tOf X.K gl)) hc hN pi ok (fun s H C cl fp => pg_fr (hg s H C cl fp).pg) (fun s H C cl fp => pts_fr (ht s H C cl fp).pts) (fun s H C cl fp => pe_fr (he s H C cl fp).pe) hs, fun A F H S σ r Q k h post err => ?_⟩
  obtain ⟨e, h1, rfl⟩ := Option.map_eq_some_iff.mp h
  exact ri A F H S σ e _ k h1 (err e rfl)
theorem z_setLcX (i : Nat) (own : List (Str × Nat)) (hN : X.N.Nodup) (hi : GIX X W tg iter gi) (ok : BlkOk X.N X.env.scope scope own) (hg : InBlk X scope fun Y => GG Y tgt tg gg) (ht : InBlk X scope fun Y => GTs Y ifs gt) (he : InBlk X scope fun Y => GE Y elt gl)
    (hy : X.N[i]? = some y := by rfl) (hyl : X.env.scope.names.lookup y = some .local := by rfl) (hc : X.calm = true := by rfl) (hs : ∀ x, foldedSetIterable iter X.env x = pure x := by intro _; rfl)
    (hsw : swapsWith (.ListComp elt [⟨tg, iter, ifs, 0⟩] scope pos) (some (.Name y py)) spos.line X.env = pure true := by exact sw_true rfl rfl rfl (by decide +kernel)) :
    GZ X P W (.Assign [.Name y py] (.ListComp elt [⟨tg, iter, ifs, 0⟩] scope pos) spos) (zErr gi) := by
  obtain ⟨t, pi, ri⟩ := hi.ex
  refine ⟨_, ps_setLc (g := gFr (gOf X.K tgt gg)) (tt := tFrT (ttOf X.K gt)) (te := tFr (tOf X.K gl)) hc hN hy hyl hsw pi ok (fun s H C cl fp => pg_fr (hg s H C cl fp).pg) (fun s H C cl fp => pts_fr (ht s H C cl fp).pts) (fun s H C cl fp => pe_fr (he s H C cl fp).pe) hs, fun B A0 A F H S σ r E hP s p k h post err => ?_⟩
  obtain ⟨e, h1, rfl⟩ := Option.map_eq_some_iff.mp h
  exact ri A F H S σ e _ k h1 ((err e rfl).mono p s)
theorem z_forX (hp : PassesOwn (model X.prog X.w) X.A X.env X.xe) (hi : GIX X W tg iter gi) (hg : GG X tgt tg gg) (hb : GSs X P body g) (hc : X.calm = true := by rfl) (hs : ∀ x, foldedSetIterable iter X.env x = pure x := by intro _; rfl) : GZ X P W (.For tg iter body [] pos) (zErr gi) := by
  obtain ⟨t, pi, ri⟩ := hi.ex
  obtain ⟨u, pg, rg⟩ := hg.ex
  obtain ⟨v, pb, rb⟩ := hb.ex
  refine ⟨_, ps_for hp hc pi pg pb hs, fun B A0 A F H S σ r E hP s p k h post err => ?_⟩
  obtain ⟨e, h1, rfl⟩ := Option.map_eq_some_iff.mp h
  exact ri A F H S σ e _ k h1 ((err e rfl).mono p s)
end
/-! ### two promises of one def -/
def orZ (m : List D → Option (Except Str D)) (f : List D → Option D) : List D → Option (Except Str D) := fun ds => match m ds with
  | some (.error c) => some (.error c)
  | _ => (f ds).map .ok
section
variable {X : Cx} {W : WX} {pos p : Pos} {x : Str} {e : Expr} {es : List Expr} {gs : M (List D)} {k k2 n : Nat} {ps : List Str}
/-- a call of a def that raises before all else, or gives its value -/
theorem ez_callOr {m : List D → Option (Except Str D)} {f : List D → Option D} (h1 : HasZ X.prog X.w X.K X.mg X.base x k ps (spZ X.K n m)) (h2 : Has X.prog X.w X.K X.mg X.base x k2 ps (spF X.K n f)) (hr : Room k X.A) (hr2 : Room k2 X.A) (tk : Takes X W) (ha : GA X (e :: es) gs) (hg : Gl X x := by rfl) (hdb : (x == ("__debug__" : Str)) = false := by decide)
    (he : starEach (e :: es) X.env = (false, eval e X.env) :: starEach es X.env := by rfl) (hpl : (backTo pos (starEach es X.env)).any (·.1) = false := by rfl) : GEZ X W (.Call (.Name x p) (e :: es) [] pos) (zCall n (orZ m f) gs) := by
  obtain ⟨t1, pe1, re1⟩ := (ez_call (pos := pos) (p := p) h1 hr tk ha hg hdb he hpl).ex
  obtain ⟨t2, pe2, re2⟩ := (e_callH (pos := pos) (p := p) h2 hr2 ha hg hdb he hpl).ex
  refine ⟨fun σ H Q => t1 σ H Q ∨ t2 σ H Q, ⟨fun pins s σ H Q I h => h.elim (pe1.run pins s σ H Q I) (pe2.run pins s σ H Q I)⟩, fun A F H S σ r Q k h post err => ?_⟩
  unfold zCall at h
  obtain ⟨⟨ds, S1⟩, e1, h⟩ := bind_inv h
  simp only at h
  split at h
  case isFalse => cases h
  rename_i hn
  obtain ⟨r0, e2, rfl⟩ := Option.map_eq_some_iff.mp h
  unfold orZ at e2
  split at e2
  · rename_i c hm
    cases e2
    refine .inl (re1 A F H S σ (.error (c, S1)) Q k ?_ (fun d S' z => by cases z) fun e ee => err e ee)
    simp only [zCall, e1, Option.bind_some, if_pos hn, hm, Option.map_some]
  · obtain ⟨z, e3, rfl⟩ := Option.map_eq_some_iff.mp e2
    refine .inr (re2 A F H S σ z S1 Q k ?_ fun A' F' H' v p s k' rv => post z S1 rfl A' F' H' v p s k' rv)
    simp only [gCallF, e1, Option.bind_some, if_pos hn, e3]
end
/-! ### a def whose lambda's table is known is a def -/
theorem DefAtT.at {K : PySem.W.Frag} {mg : Str → Option Value} {x : Str} {st : Stmt} {ps : List Str} (h : DefAtT K mg x st ps) : DefAt K mg x st ps := by
  obtain ⟨f, fd, c, P, hm, ⟨⟨oc, od, kV, doc, pm, an, ct, osl, e1, e2, e3⟩, kp⟩, b, _⟩ := h
  exact ⟨f, fd, hm, ⟨⟨oc, od, kV, doc, pm, an, .ref c, ct, osl, e1, e2, e3⟩, kp⟩, b⟩
end Fu

set_option maxHeartbeats 4000000
namespace Fu
open PySem
variable [TabsC]

/-! ### data: shaped, equal -/
theorem shaped_iff {d : D} : SeqAt.shaped d = true ↔ d.canLay0 = true ∧ d.depth ≤ 64 := by
  unfold SeqAt.shaped
  rw [Bool.and_eq_true, decide_eq_true_eq]
@[simp] theorem shaped_int (i : Int) : SeqAt.shaped (.int i) = true := by simp [shaped_iff, PyData.canLay0, PyData.depth]
@[simp] theorem shaped_bool (b : Bool) : SeqAt.shaped (.bool b) = true := by simp [shaped_iff, PyData.canLay0, PyData.depth]
@[simp] theorem shaped_none : SeqAt.shaped .none = true := by simp [shaped_iff, PyData.canLay0, PyData.depth]
@[simp] theorem dEq_int (a b : Int) : dEq (.int a) (.int b) = some (.bool (decide (a = b))) := by
  simp [dEq, PyData.eqv, Bool.beq_eq_decide_eq]
@[simp] theorem dNe_int (a b : Int) : dNe (.int a) (.int b) = some (.bool (!decide (a = b))) := by
  simp [dNe, PyData.eqv, Bool.beq_eq_decide_eq]
/-- lists (tuples) of things of one shape, their depth at most n -/
def Fine (n : Nat) (d : D) : Prop := d.canLay0 = true ∧ d.depth ≤ n
theorem Fine.mono {m n : Nat} {d : D} (h : Fine m d) (l : m ≤ n) : Fine n d := ⟨h.1, Nat.le_trans h.2 l⟩
theorem Fine.shaped {n : Nat} {d : D} (h : Fine n d) (l : n ≤ 64 := by decide) : SeqAt.shaped d = true := shaped_iff.mpr ⟨h.1, Nat.le_trans h.2 l⟩
theorem fine_all {n : Nat} : ∀ {ds : List D}, (∀ d ∈ ds, Fine n d) → PyData.canLayAll0 ds = true ∧ PyData.depthAll ds ≤ n
  | [], _ => ⟨rfl, Nat.zero_le _⟩
  | d :: ds, h => by
    obtain ⟨a, b⟩ := fine_all fun e he => h e (List.mem_cons_of_mem _ he)
    have c := h d List.mem_cons_self
    exact ⟨by simp [PyData.canLayAll0, a, c.1], by simp only [PyData.depthAll]; exact Nat.max_le.mpr ⟨c.2, b⟩⟩
theorem fine_list {n : Nat} {ds : List D} (h : ∀ d ∈ ds, Fine n d) : Fine (n + 1) (.list ds) := by
  obtain ⟨a, b⟩ := fine_all h
  exact ⟨by simpa [PyData.canLay0] using a, by simp only [PyData.depth]; omega⟩
theorem fine_tup {n : Nat} {ds : List D} (h : ∀ d ∈ ds, Fine n d) : Fine (n + 1) (.tuple ds) := by
  obtain ⟨a, b⟩ := fine_all h
  exact ⟨by simpa [PyData.canLay0] using a, by simp only [PyData.depth]; omega⟩
theorem fine_int (i : Int) : Fine 0 (.int i) := ⟨by simp [PyData.canLay0], by simp [PyData.depth]⟩
theorem fine_str {x : Str} (h : PyData.strOk x = true) : Fine 0 (.str x) := ⟨by simpa [PyData.canLay0] using h, by simp [PyData.depth]⟩
/-- one sign -/
def ch (c : Nat) : D := .str ⟨#[c]⟩
theorem fine_ch {c : Nat} (h : c < 0x110000) : Fine 0 (ch c) := fine_str (by simp [PyData.strOk, h])
theorem ch_inj {a b : Nat} (h : ch a = ch b) : a = b := by
  unfold ch at h
  injection h with h
  injection h with h
  have := congrArg (fun z : Array Nat => z.toList) h
  simpa using this
theorem dEq_ch {a b : Nat} (ha : a < 0x110000) (hb : b < 0x110000) : dEq (ch a) (ch b) = some (.bool (decide (a = b))) := by
  unfold dEq
  rw [if_pos ⟨(fine_ch ha).shaped, (fine_ch hb).shaped⟩]
  congr 2
  unfold ch
  simp only [PyData.eqv]
  by_cases h : a = b
  · subst h; simp
  · rw [decide_eq_false h, beq_eq_false_iff_ne]
    intro e
    exact h (ch_inj (congrArg PyData.str e))
/-! ### comprehensions that change nothing else -/
theorem wipeS_in' {sl : List (Option R)} {n : Nat} : ∀ {ws : List Nat}, n ∈ ws → (wipeS sl ws)[n]? = if n < sl.length then some none else none
  | v :: ws, h => by
    unfold wipeS
    by_cases hv : v = n
    · subst hv
      by_cases hl : v < sl.length
      · rw [List.getElem?_set_self (by rw [wipeS_len]; exact hl), if_pos hl]
      · rw [List.getElem?_eq_none (by rw [List.length_set, wipeS_len]; omega), if_neg hl]
    · rw [List.getElem?_set_ne hv]
      exact wipeS_in' ((List.mem_cons.mp h).resolve_left fun z => hv z.symm)
theorem backS_same {old new : List (Option R)} {vs : List Nat} (h : wipeS new vs = wipeS old vs) : backS old new vs = old := by
  have hl : old.length = new.length := by
    have := congrArg List.length h
    rw [wipeS_len, wipeS_len] at this
    exact this.symm
  apply List.ext_getElem?
  intro n
  rw [backS_in hl]
  by_cases hn : n ∈ vs
  · rw [if_pos hn]
  · rw [if_neg hn]
    have := congrArg (fun l => l[n]?) h
    have h2 : (wipeS new vs)[n]? = (wipeS old vs)[n]? := this
    rwa [wipeS_out hn, wipeS_out hn] at h2
/-- the turns of a comprehension whose parts change nothing but its own names -/
theorem turns_pure {gg : D → Sx → Option Sx} {gt : M Bool} {ge : M D} {vs : List Nat} {b : D → Bool} {f : D → D} {w : List (Option R)} {os : List (Option Cell)} :
    ∀ (ds : List D) (sl : List (Option R)), wipeS sl vs = w → (∀ d ∈ ds, ∃ sl1, gg d ⟨w, os⟩ = some ⟨sl1, os⟩ ∧ wipeS sl1 vs = w ∧ gt ⟨sl1, os⟩ = some (b d, ⟨sl1, os⟩) ∧ (b d = true → ge ⟨sl1, os⟩ = some (f d, ⟨sl1, os⟩))) →
      ∃ sl', wipeS sl' vs = w ∧ gTurns gg gt ge vs ds ⟨sl, os⟩ = some ((ds.filter b).map f, ⟨sl', os⟩)
  | [], sl, e, _ => ⟨sl, e, rfl⟩
  | d :: ds, sl, e, h => by
    obtain ⟨sl1, h1, h2, h3, h4⟩ := h d List.mem_cons_self
    obtain ⟨sl', e', ih⟩ := turns_pure ds sl1 h2 fun x hx => h x (List.mem_cons_of_mem _ hx)
    refine ⟨sl', e', ?_⟩
    rw [gTurns]
    simp only [e, h1, h3, Option.bind_some]
    cases hb : b d with
    | true => simp [h4 hb, ih, hb]
    | false => simp [ih, hb]
/-! ### loops -/
theorem loop_inv {gg : D → Sx → Option Sx} {body : Sx → Option Out} (I : Nat → Sx → Prop) : ∀ (ds : List D) (n : Nat) (S : Sx), I n S → (∀ i d S, ds[i]? = some d → I (n + i) S → ∃ S1 S2, gg d S = some S1 ∧ body S1 = some (.nx S2) ∧ I (n + i + 1) S2) →
    ∃ S', gLoop gg body ds S = some (.nx S') ∧ I (n + ds.length) S'
  | [], n, S, h0, _ => ⟨S, rfl, h0⟩
  | d :: ds, n, S, h0, hs => by
    obtain ⟨S1, S2, h1, h2, h3⟩ := hs 0 d S rfl h0
    obtain ⟨S', h4, h5⟩ := loop_inv I ds (n + 1) S2 h3 fun i e T he hI => by
      have := hs (i + 1) e T (by simpa using he) (by rwa [show n + (i + 1) = n + 1 + i by omega])
      rwa [show n + (i + 1) + 1 = n + 1 + i + 1 by omega] at this
    refine ⟨S', ?_, by rwa [show n + (d :: ds).length = n + 1 + ds.length by simp; omega]⟩
    rw [gLoop]
    simp only [h1, h2, Option.bind_some]
    exact h4
theorem rng_at {lo : Int} {n i : Nat} {d : D} (h : (rng lo n)[i]? = some d) : i < n ∧ d = .int (lo + i) := by
  unfold rng at h
  rw [List.getElem?_map] at h
  obtain ⟨j, hj, rfl⟩ := Option.map_eq_some_iff.mp h
  obtain ⟨h1, h2⟩ := List.getElem?_eq_some_iff.mp hj
  simp at h1 h2
  subst h2
  exact ⟨h1, rfl⟩
theorem atI_ok {α : Type} {xs : List α} {i : Int} (h0 : 0 ≤ i) (h1 : i < xs.length) : L2.atI xs i = xs[i.toNat]? := by
  unfold L2.atI L2.ixN
  rw [if_pos h0, if_pos h1]; rfl
theorem line_eq : sizeLine = 16777216 := sizeLine_eq
end Fu

set_option maxHeartbeats 4000000
namespace Fu
open PySem
variable [TabsC]

/-! ### plain data: no truth value inside; there python's equality is equality -/
mutual
def plain : D → Bool
  | .none | .int _ | .str _ => true
  | .bool _ | .dict _ => false
  | .list xs | .tuple xs => plains xs
def plains : List D → Bool
  | [] => true
  | x :: xs => plain x && plains xs
end
mutual
theorem eqv_plain : ∀ d e : D, plain d = true → plain e = true → (PyData.eqv d e = true ↔ d = e)
  | .none, e, _, h => by cases e <;> simp [PyData.eqv, plain] at h ⊢
  | .int i, e, _, h => by cases e <;> simp [PyData.eqv, plain] at h ⊢
  | .str i, e, _, h => by cases e <;> simp [PyData.eqv, plain] at h ⊢
  | .bool b, _, h, _ => by simp [plain] at h
  | .dict b, _, h, _ => by simp [plain] at h
  | .list xs, e, h1, h2 => by
    cases e with
    | list ys =>
      simp only [plain] at h1 h2
      rw [PyData.eqv, eqvs_plain xs ys h1 h2]
      exact ⟨fun h => by rw [h], fun h => by injection h⟩
    | _ => simp [PyData.eqv, plain] at h2 ⊢
  | .tuple xs, e, h1, h2 => by
    cases e with
    | tuple ys =>
      simp only [plain] at h1 h2
      rw [PyData.eqv, eqvs_plain xs ys h1 h2]
      exact ⟨fun h => by rw [h], fun h => by injection h⟩
    | _ => simp [PyData.eqv, plain] at h2 ⊢
theorem eqvs_plain : ∀ xs ys : List D, plains xs = true → plains ys = true → (PyData.eqvAll xs ys = true ↔ xs = ys)
  | [], ys, _, _ => by cases ys <;> simp [PyData.eqvAll]
  | x :: xs, [], _, _ => by simp [PyData.eqvAll]
  | x :: xs, y :: ys, h1, h2 => by
    simp only [plains, Bool.and_eq_true] at h1 h2
    rw [PyData.eqvAll, Bool.and_eq_true, eqv_plain x y h1.1 h2.1, eqvs_plain xs ys h1.2 h2.2]
    exact ⟨fun h => by rw [h.1, h.2], fun h => by injection h; exact ⟨by assumption, by assumption⟩⟩
end
theorem plains_all {xs : List D} : plains xs = true ↔ ∀ d ∈ xs, plain d = true := by
  induction xs with
  | nil => simp [plains]
  | cons x xs ih => simp [plains, ih]
/-- good data: plain, of shape, not deep -/
structure Good (n : Nat) (d : D) : Prop where
  fine : Fine n d
  plain : plain d = true
theorem Good.shaped {n : Nat} {d : D} (h : Good n d) (l : n ≤ 64 := by decide) : SeqAt.shaped d = true := h.fine.shaped l
theorem Good.mono {m n : Nat} {d : D} (h : Good m d) (l : m ≤ n) : Good n d := ⟨h.fine.mono l, h.plain⟩
theorem good_int (i : Int) : Good 0 (.int i) := ⟨fine_int i, rfl⟩
theorem good_list {n : Nat} {ds : List D} (h : ∀ d ∈ ds, Good n d) : Good (n + 1) (.list ds) := ⟨fine_list fun d hd => (h d hd).fine, plains_all.mpr fun d hd => (h d hd).plain⟩
theorem good_tup {n : Nat} {ds : List D} (h : ∀ d ∈ ds, Good n d) : Good (n + 1) (.tuple ds) := ⟨fine_tup fun d hd => (h d hd).fine, plains_all.mpr fun d hd => (h d hd).plain⟩
theorem good_list_le {m n : Nat} {ds : List D} (h : ∀ d ∈ ds, Good m d) (l : m + 1 ≤ n) : Good n (.list ds) := (good_list h).mono l
open Classical in
theorem dEq_good {m n : Nat} {d e : D} (h : Good m d) (k : Good n e) (l1 : m ≤ 64 := by decide) (l2 : n ≤ 64 := by decide) : dEq d e = some (.bool (decide (d = e))) := by
  unfold dEq
  rw [if_pos ⟨h.shaped l1, k.shaped l2⟩]
  by_cases x : d = e
  · rw [(eqv_plain d e h.plain k.plain).mpr x, decide_eq_true x]
  · rw [decide_eq_false x, Bool.eq_false_iff.mpr fun z => x ((eqv_plain d e h.plain k.plain).mp z)]
open Classical in
theorem dNe_good {m n : Nat} {d e : D} (h : Good m d) (k : Good n e) (l1 : m ≤ 64 := by decide) (l2 : n ≤ 64 := by decide) : dNe d e = some (.bool (!decide (d = e))) := by
  unfold dNe
  rw [if_pos ⟨h.shaped l1, k.shaped l2⟩]
  by_cases x : d = e
  · rw [(eqv_plain d e h.plain k.plain).mpr x, decide_eq_true x]
  · rw [decide_eq_false x, Bool.eq_false_iff.mpr fun z => x ((eqv_plain d e h.plain k.plain).mp z)]

/-! ### what a run answers, forwards -/
def Ev {α : Type} (x : Option (α × Sx)) (Q : α → Sx → Prop) : Prop := ∃ a S, x = some (a, S) ∧ Q a S
def Es (x : Option Sx) (Q : Sx → Prop) : Prop := ∃ S, x = some S ∧ Q S
def Eo (x : Option Out) (Q : Out → Prop) : Prop := ∃ o, x = some o ∧ Q o
def Ed {α : Type} (x : Option α) (Q : α → Prop) : Prop := ∃ d, x = some d ∧ Q d
theorem Ev.mono {α : Type} {x : Option (α × Sx)} {P Q : α → Sx → Prop} (h : Ev x P) (f : ∀ a S, P a S → Q a S) : Ev x Q := let ⟨a, S, e, p⟩ := h; ⟨a, S, e, f a S p⟩
theorem Eo.mono {x : Option Out} {P Q : Out → Prop} (h : Eo x P) (f : ∀ a, P a → Q a) : Eo x Q := let ⟨a, e, p⟩ := h; ⟨a, e, f a p⟩
theorem Ed.of {α : Type} {x : Option α} {d : α} {Q : α → Prop} (e : x = some d) (h : Q d) : Ed x Q := ⟨d, e, h⟩
theorem Ev.of {α : Type} {x : Option (α × Sx)} {d : α} {S : Sx} {Q : α → Sx → Prop} (e : x = some (d, S)) (h : Q d S) : Ev x Q := ⟨d, S, e, h⟩
theorem Ev.eq {α : Type} {x : Option (α × Sx)} {d : α} {S : Sx} (h : Ev x fun a T => a = d ∧ T = S) : x = some (d, S) := by
  obtain ⟨a, T, e, rfl, rfl⟩ := h; exact e
theorem Es.eq {x : Option Sx} {S : Sx} (h : Es x fun T => T = S) : x = some S := by
  obtain ⟨T, e, rfl⟩ := h; exact e
section
variable {α : Type} {S : Sx} {Q : D → Sx → Prop} {P : Bool → Sx → Prop} {L : List D → Sx → Prop} {O : Option Int → Sx → Prop} {Z : Out → Prop} {W : Sx → Prop}
theorem ev_c {d : D} (h : Q d S) : Ev (gC d S) Q := ⟨d, S, rfl, h⟩
theorem ev_var {sl : List (Option R)} {os : List (Option Cell)} {i : Nat} (h : ∃ d, sl[i]? = some (some (.dat d)) ∧ Q d ⟨sl, os⟩) : Ev (gVar i ⟨sl, os⟩) Q := by
  obtain ⟨d, e, h⟩ := h
  exact ⟨d, _, by unfold gVar; simp only [e], h⟩
theorem ev_bin {f : D → D → Option D} {ga gb : M D} (h : Ev (ga S) fun d S1 => Ev (gb S1) fun e S2 => Ed (f d e) fun z => Q z S2) : Ev (gBin f ga gb S) Q := by
  obtain ⟨d, S1, e1, e, S2, e2, z, e3, q⟩ := h
  exact ⟨z, S2, by simp only [gBin, e1, e2, e3, Option.bind_some], q⟩
theorem ev_un {f : D → Option D} {ga : M D} (h : Ev (ga S) fun d S1 => Ed (f d) fun z => Q z S1) : Ev (gUn f ga S) Q := by
  obtain ⟨d, S1, e1, z, e3, q⟩ := h
  exact ⟨z, S1, by simp only [gUn, e1, e3, Option.bind_some], q⟩
theorem ev_nil (h : L [] S) : Ev (gNil S) L := ⟨_, _, rfl, h⟩
theorem ev_cons {g : M D} {gs : M (List D)} (h : Ev (g S) fun d S1 => Ev (gs S1) fun ds S2 => L (d :: ds) S2) : Ev (gCons g gs S) L := by
  obtain ⟨d, S1, e1, e, S2, e2, q⟩ := h
  exact ⟨_, S2, by simp only [gCons, e1, e2, Option.bind_some], q⟩
theorem ev_tup {g : M (List D)} (h : Ev (g S) fun ds S1 => ds.length ≤ 16777216 ∧ Q (.tuple ds) S1) : Ev (gTup g S) Q := by
  obtain ⟨d, S1, e1, l, q⟩ := h
  exact ⟨_, S1, by simp only [gTup, e1, Option.bind_some, line_eq, if_pos l], q⟩
theorem ev_lst {g : M (List D)} (h : Ev (g S) fun ds S1 => ds.length ≤ 16777216 ∧ Q (.list ds) S1) : Ev (gLst g S) Q := by
  obtain ⟨d, S1, e1, l, q⟩ := h
  exact ⟨_, S1, by simp only [gLst, e1, Option.bind_some, line_eq, if_pos l], q⟩
theorem ev_call {f : List D → Option D} {g : M (List D)} (h : Ev (g S) fun ds S1 => Ed (f ds) fun z => Q z S1) : Ev (gCall f g S) Q := by
  obtain ⟨d, S1, e1, z, e3, q⟩ := h
  exact ⟨z, S1, by simp only [gCall, e1, e3, Option.bind_some], q⟩
theorem ev_callF {n : Nat} {f : List D → Option D} {g : M (List D)} (h : Ev (g S) fun ds S1 => ds.length = n ∧ Ed (f ds) fun z => Q z S1) : Ev (gCallF n f g S) Q := by
  obtain ⟨d, S1, e1, l, z, e3, q⟩ := h
  exact ⟨z, S1, by simp only [gCallF, e1, e3, Option.bind_some, if_pos l], q⟩
theorem ev_isi {T : String} {g : M D} (h : Ev (g S) fun d S1 => Q (.bool (isT T d)) S1) : Ev (gIsi T g S) Q := by
  obtain ⟨d, S1, e1, q⟩ := h
  exact ⟨_, S1, by simp only [gIsi, e1, Option.bind_some], q⟩
theorem ev_isi2 {T U : String} {g : M D} (h : Ev (g S) fun d S1 => Q (.bool (isT T d || isT U d)) S1) : Ev (gIsi2 T U g S) Q := by
  obtain ⟨d, S1, e1, q⟩ := h
  exact ⟨_, S1, by simp only [gIsi2, e1, Option.bind_some], q⟩
theorem ev_andV {g k : M D} (h : Ev (g S) fun d S1 => ∃ b, d = .bool b ∧ (b = true → Ev (k S1) fun e S2 => ∃ c, e = .bool c ∧ Q (.bool c) S2) ∧ (b = false → Q (.bool false) S1)) : Ev (gAndV g k S) Q := by
  obtain ⟨d, S1, e1, b, rfl, h1, h2⟩ := h
  cases b with
  | true => 
    obtain ⟨e, S2, e2, c, rfl, q⟩ := h1 rfl
    exact ⟨_, S2, by simp [gAndV, e1, e2], q⟩
  | false => exact ⟨_, S1, by simp [gAndV, e1], h2 rfl⟩
theorem ev_orV {g k : M D} (h : Ev (g S) fun d S1 => ∃ b, d = .bool b ∧ (b = false → Ev (k S1) fun e S2 => ∃ c, e = .bool c ∧ Q (.bool c) S2) ∧ (b = true → Q (.bool true) S1)) : Ev (gOrV g k S) Q := by
  obtain ⟨d, S1, e1, b, rfl, h1, h2⟩ := h
  cases b with
  | false => 
    obtain ⟨e, S2, e2, c, rfl, q⟩ := h1 rfl
    exact ⟨_, S2, by simp [gOrV, e1, e2], q⟩
  | true => exact ⟨_, S1, by simp [gOrV, e1], h2 rfl⟩
theorem ev_notV {g : M D} (h : Ev (g S) fun d S1 => ∃ b, d = .bool b ∧ Q (.bool !b) S1) : Ev (gNotV g S) Q := by
  obtain ⟨d, S1, e1, b, rfl, q⟩ := h
  exact ⟨_, S1, by simp [gNotV, e1], q⟩
theorem ev_B {g : M D} (h : Ev (g S) fun d S1 => ∃ b, d = .bool b ∧ P b S1) : Ev (gB g S) P := by
  obtain ⟨d, S1, e1, b, rfl, q⟩ := h
  exact ⟨b, S1, by simp only [gB, e1, Option.bind_some], q⟩
theorem ev_and {g k : M Bool} (h : Ev (g S) fun b S1 => (b = true → Ev (k S1) P) ∧ (b = false → P false S1)) : Ev (gAnd g k S) P := by
  obtain ⟨b, S1, e1, h1, h2⟩ := h
  cases b with
  | true => 
    obtain ⟨c, S2, e2, q⟩ := h1 rfl
    exact ⟨_, S2, by simp [gAnd, e1, e2], q⟩
  | false => exact ⟨_, S1, by simp [gAnd, e1], h2 rfl⟩
theorem ev_or {g k : M Bool} (h : Ev (g S) fun b S1 => (b = false → Ev (k S1) P) ∧ (b = true → P true S1)) : Ev (gOr g k S) P := by
  obtain ⟨b, S1, e1, h1, h2⟩ := h
  cases b with
  | false => 
    obtain ⟨c, S2, e2, q⟩ := h1 rfl
    exact ⟨_, S2, by simp [gOr, e1, e2], q⟩
  | true => exact ⟨_, S1, by simp [gOr, e1], h2 rfl⟩
theorem ev_not {g : M Bool} (h : Ev (g S) fun b S1 => P (!b) S1) : Ev (gNot g S) P := by
  obtain ⟨b, S1, e1, q⟩ := h
  exact ⟨_, S1, by simp [gNot, e1], q⟩
theorem ev_yes (h : P true S) : Ev (gYes S) P := ⟨_, _, rfl, h⟩
theorem ev_if {t : M Bool} {g k : M D} (h : Ev (t S) fun b S1 => (b = true → Ev (g S1) Q) ∧ (b = false → Ev (k S1) Q)) : Ev (gIf t g k S) Q := by
  obtain ⟨b, S1, e1, h1, h2⟩ := h
  cases b with
  | true => 
    obtain ⟨c, S2, e2, q⟩ := h1 rfl
    exact ⟨_, S2, by simp [gIf, e1, e2], q⟩
  | false =>
    obtain ⟨c, S2, e2, q⟩ := h2 rfl
    exact ⟨_, S2, by simp [gIf, e1, e2], q⟩
theorem ev_no (h : O none S) : Ev (gNo S) O := ⟨_, _, rfl, h⟩
theorem ev_so {g : M D} (h : Ev (g S) fun d S1 => ∃ i, d = .int i ∧ O (some i) S1) : Ev (gSo g S) O := by
  obtain ⟨d, S1, e1, i, rfl, q⟩ := h
  exact ⟨_, S1, by simp only [gSo, e1, Option.bind_some], q⟩
theorem ev_sl {g : M D} {gl gh : M (Option Int)} (h : Ev (g S) fun d S1 => Ev (gl S1) fun lo S2 => Ev (gh S2) fun hi S3 => Ed (dSl d lo hi) fun z => Q z S3) : Ev (gSl g gl gh S) Q := by
  obtain ⟨d, S1, e1, lo, S2, e2, hi, S3, e3, z, e4, q⟩ := h
  exact ⟨z, S3, by simp only [gSl, e1, e2, e3, e4, Option.bind_some], q⟩
theorem ev_items {g : M D} (h : Ev (g S) fun d S1 => Ed (itemsOf d) fun xs => L xs S1) : Ev (gItems g S) L := by
  obtain ⟨d, S1, e1, xs, e2, q⟩ := h
  exact ⟨xs, S1, by simp only [gItems, e1, e2, Option.bind_some], q⟩
theorem ev_rng1 {g : M (List D)} (h : Ev (g S) fun ds S1 => ∃ n : Int, ds = [.int n] ∧ -4611686018427387904 ≤ n ∧ n ≤ 16777216 ∧ L (rng 0 n.toNat) S1) : Ev (gRng1 g S) L := by
  obtain ⟨ds, S1, e1, n, rfl, l1, l2, q⟩ := h
  exact ⟨_, S1, by simp only [gRng1, e1, Option.bind_some, line_eq]; rw [if_pos ⟨by omega, by omega⟩], q⟩
theorem ev_rng2 {g : M (List D)} (h : Ev (g S) fun ds S1 => ∃ i j : Int, ds = [.int i, .int j] ∧ -4294967296 ≤ i ∧ i ≤ 4294967296 ∧ -4294967296 ≤ j ∧ j ≤ 4294967296 ∧ j - i ≤ 16777216 ∧ L (rng i (j - i).toNat) S1) : Ev (gRng2 g S) L := by
  obtain ⟨ds, S1, e1, i, j, rfl, l1, l2, l3, l4, l5, q⟩ := h
  exact ⟨_, S1, by simp only [gRng2, e1, Option.bind_some, line_eq]; rw [if_pos ⟨by omega, by omega, by omega, by omega, by omega⟩], q⟩
/-- a comprehension that changes nothing else -/
theorem ev_lc {gi : M (List D)} {gg : D → Sx → Option Sx} {gt : M Bool} {ge : M D} {vs : List Nat} (b : D → Bool) (f : D → D)
    (h : Ev (gi S) fun ds S1 => (∀ d ∈ ds, Es (gg d ⟨wipeS S1.sl vs, S1.os⟩) fun S2 => wipeS S2.sl vs = wipeS S1.sl vs ∧ S2.os = S1.os ∧ Ev (gt S2) fun c S3 => S3 = S2 ∧ c = b d ∧ (b d = true → Ev (ge S2) fun e S4 => e = f d ∧ S4 = S2)) ∧ Q (.list ((ds.filter b).map f)) S1) : Ev (gLc gi gg gt ge vs S) Q := by
  obtain ⟨ds, ⟨sl1, os1⟩, e1, h1, q⟩ := h
  obtain ⟨sl', e', ht⟩ := turns_pure (gg := gg) (gt := gt) (ge := ge) (b := b) (f := f) ds sl1 rfl fun d hd => by
    obtain ⟨⟨sl2, os2⟩, e2, e3, e4, c, S3, e5, e6, e7, e8⟩ := h1 d hd
    cases e4
    subst e7 e6
    exact ⟨sl2, e2, e3, e5, fun hb => (e8 hb).eq⟩
  refine ⟨_, _, ?_, q⟩
  unfold gLc
  rw [e1]
  simp only [Option.bind_some, ht, backS_same e']
theorem ev_map {gi : M (List D)} {gg : D → Sx → Option Sx} {ge : M D} {vs : List Nat} (f : D → D)
    (h : Ev (gi S) fun ds S1 => (∀ d ∈ ds, Es (gg d ⟨wipeS S1.sl vs, S1.os⟩) fun S2 => wipeS S2.sl vs = wipeS S1.sl vs ∧ S2.os = S1.os ∧ Ev (ge S2) fun e S4 => e = f d ∧ S4 = S2) ∧ Q (.list (ds.map f)) S1) : Ev (gLc gi gg gYes ge vs S) Q := by
  refine ev_lc (fun _ => true) f ?_
  refine h.mono fun ds S1 h => ⟨fun d hd => ?_, by rw [List.filter_eq_self.mpr fun _ _ => rfl]; exact h.2⟩
  obtain ⟨S2, e2, e3, e4, e5⟩ := h.1 d hd
  exact ⟨S2, e2, e3, e4, ev_yes ⟨rfl, rfl, fun _ => e5⟩⟩
theorem es_name {i : Nat} {d : D} (h : W ⟨S.sl.set i (some (.dat d)), S.os⟩) : Es (sName i d S) W := ⟨_, rfl, h⟩
theorem es_tup2 {i j : Nat} {d e : D} (h : W ⟨(S.sl.set i (some (.dat d))).set j (some (.dat e)), S.os⟩) : Es (sTup 2 (sCons (sName i) (sCons (sName j) sNil)) (.tuple [d, e]) S) W := ⟨_, rfl, h⟩
theorem es_tup3 {i j k : Nat} {d e f : D} (h : W ⟨((S.sl.set i (some (.dat d))).set j (some (.dat e))).set k (some (.dat f)), S.os⟩) : Es (sTup 3 (sCons (sName i) (sCons (sName j) (sCons (sName k) sNil))) (.tuple [d, e, f]) S) W := ⟨_, rfl, h⟩
/-- what goes on after a statement -/
def Then (h : Sx → Option Out) (Z : Out → Prop) : Out → Prop
  | .nx S => Eo (h S) Z
  | .rt d S => Z (.rt d S)
  | .bk S => Z (.bk S)
  | .ct S => Z (.ct S)
  | .ro j S => Z (.ro j S)
  | .rs r S => Z (.rs r S)
theorem eo_seq {g h : Sx → Option Out} (e : Eo (g S) (Then h Z)) : Eo (qSeq g h S) Z := by
  obtain ⟨o, e1, q⟩ := e
  cases o with
  | nx S1 =>
    obtain ⟨o2, e2, q⟩ := q
    exact ⟨o2, by simp only [qSeq, e1, Option.bind_some, e2], q⟩
  | _ => exact ⟨_, by simp only [qSeq, e1, Option.bind_some], q⟩
theorem then_nx' {h : Sx → Option Out} {S1 : Sx} (e : ∃ S2, S1 = S2 ∧ Eo (h S2) Z) : Then h Z (.nx S1) := by obtain ⟨_, rfl, e⟩ := e; exact e
theorem eo_nx (h : Z (.nx S)) : Eo (qNx S) Z := ⟨_, rfl, h⟩
theorem eo_drop {g : M D} (h : Ev (g S) fun _ S1 => Z (.nx S1)) : Eo (qDrop g S) Z := by
  obtain ⟨d, S1, e1, q⟩ := h
  exact ⟨_, by simp only [qDrop, e1, Option.bind_some], q⟩
theorem eo_ret {g : M D} (h : Ev (g S) fun d S1 => Z (.rt d S1)) : Eo (qRet g S) Z := by
  obtain ⟨d, S1, e1, q⟩ := h
  exact ⟨_, by simp only [qRet, e1, Option.bind_some], q⟩
theorem eo_retN (h : Z (.rt .none S)) : Eo (qRetN S) Z := ⟨_, rfl, h⟩
theorem eo_if {t : M Bool} {g k : Sx → Option Out} (h : Ev (t S) fun b S1 => (b = true → Eo (g S1) Z) ∧ (b = false → Eo (k S1) Z)) : Eo (qIf t g k S) Z := by
  obtain ⟨b, S1, e1, h1, h2⟩ := h
  cases b with
  | true =>
    obtain ⟨c, e2, q⟩ := h1 rfl
    exact ⟨_, by simp [qIf, e1, e2], q⟩
  | false =>
    obtain ⟨c, e2, q⟩ := h2 rfl
    exact ⟨_, by simp [qIf, e1, e2], q⟩
theorem eo_set {i : Nat} {g : M D} (h : Ev (g S) fun d S1 => Z (.nx ⟨S1.sl.set i (some (.dat d)), S1.os⟩)) : Eo (qSet i g S) Z := by
  obtain ⟨d, S1, e1, q⟩ := h
  exact ⟨_, by simp only [qSet, e1, Option.bind_some], q⟩
theorem eo_asg {gg : D → Sx → Option Sx} {g : M D} (h : Ev (g S) fun d S1 => Es (gg d S1) fun S2 => Z (.nx S2)) : Eo (qAsg gg g S) Z := by
  obtain ⟨d, S1, e1, S2, e2, q⟩ := h
  exact ⟨_, by simp only [qAsg, e1, e2, Option.bind_some], q⟩
theorem eo_par {i j : Nat} {g : M (List D)} (h : Ev (g S) fun ds S1 => ∃ d e, ds = [d, e] ∧ Z (.nx ⟨(S1.sl.set i (some (.dat d))).set j (some (.dat e)), S1.os⟩)) : Eo (qPar i j g S) Z := by
  obtain ⟨ds, S1, e1, d, e, rfl, q⟩ := h
  exact ⟨_, by simp only [qPar, e1, Option.bind_some], q⟩
theorem eo_own {i : Nat} {g : M D} (h : Ev (g S) fun d S1 => ∃ ds, d = .list ds ∧ Z (.nx ⟨S1.sl.set i (some (.own S1.os.length)), S1.os ++ [some (.lst ds)]⟩)) : Eo (qOwn i g S) Z := by
  obtain ⟨d, S1, e1, ds, rfl, q⟩ := h
  exact ⟨_, by simp only [qOwn, e1, Option.bind_some], q⟩
theorem eo_retO {g : M D} (h : Ev (g S) fun d S1 => ∃ ds, d = .list ds ∧ Z (.ro S1.os.length ⟨S1.sl, S1.os ++ [some (.lst ds)]⟩)) : Eo (qRetO g S) Z := by
  obtain ⟨d, S1, e1, ds, rfl, q⟩ := h
  exact ⟨_, by simp only [qRetO, e1, Option.bind_some], q⟩
theorem eo_for {gi : M (List D)} {gg : D → Sx → Option Sx} {body : Sx → Option Out} (h : Ev (gi S) fun ds S1 => Eo (gLoop gg body ds S1) Z) : Eo (qFor gi gg body S) Z := by
  obtain ⟨ds, S1, e1, o, e2, q⟩ := h
  exact ⟨_, by simp only [qFor, e1, Option.bind_some, e2], q⟩
theorem eo_loop {gg : D → Sx → Option Sx} {body : Sx → Option Out} {ds : List D} (I : Nat → Sx → Prop) (h0 : I 0 S) (hs : ∀ i d S, ds[i]? = some d → I i S → Es (gg d S) fun S1 => Eo (body S1) fun o => ∃ S2, o = .nx S2 ∧ I (i + 1) S2) (hz : ∀ S', I ds.length S' → Z (.nx S')) : Eo (gLoop gg body ds S) Z := by
  obtain ⟨S', e, q⟩ := loop_inv (gg := gg) (body := body) I ds 0 S h0 fun i d S h1 h2 => by
    rw [Nat.zero_add] at h2 ⊢
    obtain ⟨S1, e1, o, e2, S2, rfl, q⟩ := hs i d S h1 h2
    exact ⟨S1, S2, e1, e2, q⟩
  rw [Nat.zero_add] at q
  exact ⟨_, e, hz S' q⟩
end

theorem then_rt {h : Sx → Option Out} {Z : Out → Prop} {d : D} {S : Sx} (q : Z (.rt d S)) : Then h Z (.rt d S) := q
theorem split_t {A B : Prop} {b : Bool} (e : b = true) (h : A) : (b = true → A) ∧ (b = false → B) := ⟨fun _ => h, fun k => by rw [e] at k; cases k⟩
theorem split_f {A B : Prop} {b : Bool} (e : b = false) (h : B) : (b = true → A) ∧ (b = false → B) := ⟨fun k => (by rw [e] at k; cases k), fun _ => h⟩
theorem split_t' {A B : Prop} {b : Bool} (e : b = true) (h : A) : (b = false → B) ∧ (b = true → A) := ⟨fun k => (by rw [e] at k; cases k), fun _ => h⟩
theorem split_f' {A B : Prop} {b : Bool} (e : b = false) (h : B) : (b = false → B) ∧ (b = true → A) := ⟨fun _ => h, fun k => by rw [e] at k; cases k⟩
/-! ### whole defs -/
def Gives (z : D) : Out → Prop
  | .rt d _ => d = z
  | .nx _ => z = .none
  | _ => False
theorem mF_of {n : Nat} {g : Sx → Option Out} {ds : List D} {z : D} (h : Eo (g ⟨initS n ds, []⟩) (Gives z)) : mF n g ds = some z := by
  obtain ⟨o, e, q⟩ := h
  unfold mF
  rw [e]
  cases o with
  | nx S => cases q; rfl
  | rt d S => cases q; rfl
  | _ => exact q.elim
theorem gives_rt {z d : D} {S : Sx} (h : d = z) : Gives z (.rt d S) := h
@[simp] theorem gives_rtI {z d : D} {S : Sx} : Gives z (.rt d S) ↔ d = z := Iff.rfl
theorem gives_nx {S : Sx} : Gives .none (.nx S) := rfl
def GivesO (Q : D → List D → Prop) : Out → Prop
  | .rt d S => ∃ cs, cellOf S 0 = some cs ∧ Q d cs
  | .nx S => ∃ cs, cellOf S 0 = some cs ∧ Q .none cs
  | _ => False
theorem mIO_of {n : Nat} {g : Sx → Option Out} {cs ds : List D} {Q : D → List D → Prop} (h : Eo (g ⟨some (.own 0) :: initS (n - 1) ds, [some (.lst cs)]⟩) (GivesO Q)) : ∃ d cs', mIO n g cs ds = some (d, cs') ∧ Q d cs' := by
  obtain ⟨o, e, q⟩ := h
  unfold mIO
  rw [e]
  cases o with
  | nx S => obtain ⟨cs', e, q⟩ := q; exact ⟨_, cs', by simp [e], q⟩
  | rt d S => obtain ⟨cs', e, q⟩ := q; exact ⟨_, cs', by simp [e], q⟩
  | _ => exact q.elim
theorem ev_IO {sl : List (Option R)} {os : List (Option Cell)} {i n : Nat} {f : List D → List D → Option (D × List D)} {g : M (List D)} {Q : D → Sx → Prop}
    (h : ∃ j, sl[i]? = some (some (.own j)) ∧ Ev (g ⟨sl, os⟩) fun ds S1 => ∃ cs, S1.os[j]? = some (some (.lst cs)) ∧ ds.length = n ∧ ∃ d cs', f cs ds = some (d, cs') ∧ Q d ⟨S1.sl, S1.os.set j (some (.lst cs'))⟩) : Ev (gIO i n f g ⟨sl, os⟩) Q := by
  obtain ⟨j, hi, ds, S1, e1, cs, e2, l, d, cs', e3, q⟩ := h
  exact ⟨d, _, by simp only [gIO, hi, e1, e2, e3, Option.bind_some, if_pos l], q⟩
theorem ev_ixO {sl : List (Option R)} {os : List (Option Cell)} {i : Nat} {gb : M D} {Q : D → Sx → Prop}
    (h : ∃ j cs, sl[i]? = some (some (.own j)) ∧ os[j]? = some (some (.lst cs)) ∧ Ev (gb ⟨sl, os⟩) fun d S1 => ∃ n, d = .int n ∧ S1 = ⟨sl, os⟩ ∧ Ed (L2.atI cs n) fun e => Q e ⟨sl, os⟩) : Ev (gIxO i gb ⟨sl, os⟩) Q := by
  obtain ⟨j, cs, hi, hc, d, S1, e1, n, rfl, rfl, e, e2, q⟩ := h
  exact ⟨e, _, by simp only [gIxO, ownOf, cellOf, hi, hc, e1, e2, Option.bind_some], q⟩
theorem eo_setO {S : Sx} {i : Nat} {gb ge : M D} {Z : Out → Prop} (h : Ev (ge S) fun d S1 => ∃ j cs, S1.sl[i]? = some (some (.own j)) ∧ S1.os[j]? = some (some (.lst cs)) ∧ Ev (gb S1) fun n S2 => S2 = S1 ∧ ∃ k : Nat, n = .int k ∧ k < cs.length ∧ Z (.nx ⟨S1.sl, S1.os.set j (some (.lst (cs.set k d)))⟩)) : Eo (qSetO i gb ge S) Z := by
  obtain ⟨d, S1, e1, j, cs, hi, hc, n, S2, e2, rfl, k, rfl, l, q⟩ := h
  refine ⟨_, ?_, q⟩
  have : L2.ixN cs.length (k : Int) = some k := by
    unfold L2.ixN
    rw [if_pos (by omega), if_pos (by omega)]; simp
  simp only [qSetO, e1, Option.bind_some, ownOf, cellOf, hi, hc, e2, this, setCell]
theorem ev_app {S : Sx} {i : Nat} {ge : M D} {Q : D → Sx → Prop} (hi : ∃ j cs, S.sl[i]? = some (some (.own j)) ∧ S.os[j]? = some (some (.lst cs)) ∧ Ev (ge S) fun d S1 => ∃ cs, S1.os[j]? = some (some (.lst cs)) ∧ cs.length < 16777216 ∧ Q .none ⟨S1.sl, S1.os.set j (some (.lst (cs ++ [d])))⟩) : Ev (gApp i ge S) Q := by
  obtain ⟨j, cs, h1, h2, d, S1, e1, cs1, h3, l, q⟩ := hi
  refine ⟨_, _, ?_, q⟩
  simp only [gApp, ownOf, h1, h2, cellOf, Option.bind_some, e1, h3, line_eq, if_pos l, setCell]
theorem ev_lenO {sl : List (Option R)} {os : List (Option Cell)} {i : Nat} {Q : D → Sx → Prop} (h : ∃ j cs, sl[i]? = some (some (.own j)) ∧ os[j]? = some (some (.lst cs)) ∧ Q (.int cs.length) ⟨sl, os⟩) : Ev (gLenO i ⟨sl, os⟩) Q := by
  obtain ⟨j, cs, hi, hc, h⟩ := h
  exact ⟨_, _, by simp only [gLenO, ownOf, cellOf, hi, hc, Option.bind_some], h⟩
theorem ev_scrSl {sl : List (Option R)} {os : List (Option Cell)} {i : Nat} {gl gh : M (Option Int)} {Q : D → Sx → Prop} (h : ∃ ns, sl[i]? = some (some (.scr ns)) ∧ Ev (gl ⟨sl, os⟩) fun lo S1 => Ev (gh S1) fun hi S2 => Q (.list ((cutL ns lo hi).map .int)) S2) : Ev (gScrSl i gl gh ⟨sl, os⟩) Q := by
  obtain ⟨ns, hi, lo, S1, e1, hi2, S2, e2, h⟩ := h
  exact ⟨_, _, by simp only [gScrSl, scrOf, hi, Option.bind_some, e1, e2], h⟩
theorem ev_scrLen {sl : List (Option R)} {os : List (Option Cell)} {i : Nat} {Q : D → Sx → Prop} (h : ∃ ns : List Int, sl[i]? = some (some (.scr ns)) ∧ Q (.int ns.length) ⟨sl, os⟩) : Ev (gScrLen i ⟨sl, os⟩) Q := by
  obtain ⟨ns, hi, h⟩ := h
  exact ⟨_, _, by simp only [gScrLen, scrOf, hi, Option.bind_some], h⟩
theorem ev_callScr {sl : List (Option R)} {os : List (Option Cell)} {i : Nat} {f : List Int → Option (List D)} {Q : D → Sx → Prop} (h : ∃ ns : List Int, sl[i]? = some (some (.scr ns)) ∧ Ed (f ns) fun z => Q (.list z) ⟨sl, os⟩) : Ev (gCallScr i f ⟨sl, os⟩) Q := by
  obtain ⟨ns, hi, z, e, h⟩ := h
  exact ⟨_, _, by simp only [gCallScr, scrOf, hi, Option.bind_some, e], h⟩
theorem mScrN_of {n : Nat} {g : Sx → Option Out} {ns : List Int} {Q : List D → Prop} (h : Eo (g ⟨some (.scr ns) :: List.replicate (n - 1) none, []⟩) fun o => ∃ j S cs, o = .ro j S ∧ cellOf S j = some cs ∧ Q cs) : ∃ cs, mScrN n g ns = some cs ∧ Q cs := by
  obtain ⟨_, e, j, S, cs, rfl, h, q⟩ := h
  exact ⟨cs, by unfold mScrN; simp only [e, Option.bind_some, h], q⟩
theorem mScr_of {n : Nat} {g : Sx → Option Out} {ns : List Int} {z : D} (h : Eo (g ⟨some (.scr ns) :: List.replicate (n - 1) none, []⟩) fun o => ∃ S, o = .rt z S) : mScr n g ns = some z := by
  obtain ⟨_, e, S, rfl⟩ := h
  unfold mScr; simp only [e, Option.bind_some]

/-! ### operations on data -/
section
variable {Q : D → Prop} {i j : Int} {xs ys : List D}
theorem ed_addI (h : Q (.int (i + j))) : Ed (dAdd (.int i) (.int j)) Q := ⟨_, rfl, h⟩
theorem ed_subI (h : Q (.int (i - j))) : Ed (dSub (.int i) (.int j)) Q := ⟨_, rfl, h⟩
theorem ed_addL (l : xs.length + ys.length ≤ 16777216) (h : Q (.list (xs ++ ys))) : Ed (dAdd (.list xs) (.list ys)) Q := ⟨_, by simp only [dAdd, line_eq, if_pos l], h⟩
theorem ed_mulI (l : L2.CMulW i j) (h : Q (.int (i * j))) : Ed (dMul (.int i) (.int j)) Q := ⟨_, by simp only [dMul, if_pos l], h⟩
theorem ed_repB {b : Bool} (l : xs.length ≤ 16777216) (h : Q (.list (if b then xs else []))) : Ed (dMul (.list xs) (.int (if b then 1 else 0))) Q := by
  refine ⟨_, ?_, h⟩
  cases b with
  | true => simp only [dMul, line_eq, if_true]; rw [if_pos ⟨by decide, by decide, by simpa using l⟩]; simp
  | false => simp only [dMul, line_eq]; rw [if_pos ⟨by decide, by decide, by simp⟩]; rfl
theorem ed_divI (l : L2.CDivW i j) (h : Q (.int (i / j))) : Ed (dDiv (.int i) (.int j)) Q := ⟨_, by simp only [dDiv, if_pos l], h⟩
theorem ed_modI (l : 0 < j) (h : Q (.int (i % j))) : Ed (dMod (.int i) (.int j)) Q := ⟨_, by simp only [dMod, if_pos l], h⟩
theorem ed_cmp {p : Int → Int → Bool} (h : Q (.bool (p i j))) : Ed (dCmp p (.int i) (.int j)) Q := ⟨_, rfl, h⟩
theorem ed_eqI (h : Q (.bool (decide (i = j)))) : Ed (dEq (.int i) (.int j)) Q := ⟨_, dEq_int i j, h⟩
theorem ed_neI (h : Q (.bool (!decide (i = j)))) : Ed (dNe (.int i) (.int j)) Q := ⟨_, dNe_int i j, h⟩
theorem ed_ixT {d : D} (h0 : 0 ≤ i) (e : xs[i.toNat]? = some d) (h : Q d) : Ed (dIx (.tuple xs) (.int i)) Q := ⟨d, by
  have hl := (List.getElem?_eq_some_iff.mp e).1
  show L2.atI xs i = _
  rw [atI_ok h0 (by omega), e], h⟩
theorem ed_ixL {d : D} (h0 : 0 ≤ i) (e : xs[i.toNat]? = some d) (h : Q d) : Ed (dIx (.list xs) (.int i)) Q := ⟨d, by
  have hl := (List.getElem?_eq_some_iff.mp e).1
  show L2.atI xs i = _
  rw [atI_ok h0 (by omega), e], h⟩
theorem ed_at {d : D} {Q : D → Prop} (h0 : 0 ≤ i) (e : xs[i.toNat]? = some d) (h : Q d) : Ed (L2.atI xs i) Q := ed_ixT h0 e h
theorem ed_slT {lo hi : Option Int} (h : Q (.tuple (cutL xs lo hi))) : Ed (dSl (.tuple xs) lo hi) Q := ⟨_, rfl, h⟩
theorem ed_slL {lo hi : Option Int} (h : Q (.list (cutL xs lo hi))) : Ed (dSl (.list xs) lo hi) Q := ⟨_, rfl, h⟩
theorem ed_lenT (h : Q (.int xs.length)) : Ed (dLen [.tuple xs]) Q := ⟨_, rfl, h⟩
theorem ed_lenL (h : Q (.int xs.length)) : Ed (dLen [.list xs]) Q := ⟨_, rfl, h⟩
theorem ed_lenS {x : Str} (h : Q (.int x.length)) : Ed (dLen [.str x]) Q := ⟨_, rfl, h⟩
theorem ed_inS {c : Nat} {y : Str} (h : Q (.bool (decide (c ∈ y.cps.toList)))) : Ed (dIn (.str ⟨#[c]⟩) (.str y)) Q := ⟨_, by simp only [dIn]; rw [PySem.StrLaws.found_one], h⟩
theorem ed_powI (l : L2.CPow i j) (h : Q (.int (i ^ j.toNat))) : Ed (dPow (.int i) (.int j)) Q := ⟨_, by simp only [dPow, if_pos l], h⟩
theorem ed_neg (h : Q (.int (-i))) : Ed (dNeg (.int i)) Q := ⟨_, rfl, h⟩
theorem ed_max (h : Q (.int (max i j))) : Ed (dMax2 [.int i, .int j]) Q := ⟨_, rfl, by
  have : (if j > i then j else i) = max i j := by split <;> omega
  rw [this]; exact h⟩
theorem ed_min (h : Q (.int (min i j))) : Ed (dMin2 [.int i, .int j]) Q := ⟨_, rfl, by
  have : (if j < i then j else i) = min i j := by split <;> omega
  rw [this]; exact h⟩
theorem ed_intB {b : Bool} (h : Q (.int (if b then 1 else 0))) : Ed (dInt [.bool b]) Q := ⟨_, rfl, h⟩
theorem ed_ixS {x : Str} {c : Nat} (h0 : 0 ≤ i) (e : x.cps.toList[i.toNat]? = some c) (h : Q (ch c)) : Ed (dIx (.str x) (.int i)) Q := ⟨_, by
  have hl := (List.getElem?_eq_some_iff.mp e).1
  show (L2.atI x.cps.toList i).bind _ = _
  rw [atI_ok h0 (by omega), e]; rfl, h⟩
theorem ed_itT {Q : List D → Prop} (h : Q xs) : Ed (itemsOf (.tuple xs)) Q := ⟨_, rfl, h⟩
theorem ed_itL {Q : List D → Prop} (h : Q xs) : Ed (itemsOf (.list xs)) Q := ⟨_, rfl, h⟩
theorem ed_tupL (h : Q (.tuple xs)) : Ed (dTuple [.list xs]) Q := ⟨_, rfl, h⟩
theorem ed_tupT (h : Q (.tuple xs)) : Ed (dTuple [.tuple xs]) Q := ⟨_, rfl, h⟩
theorem ed_listL (h : Q (.list xs)) : Ed (dList [.list xs]) Q := ⟨_, rfl, h⟩
theorem ed_listT (h : Q (.list xs)) : Ed (dList [.tuple xs]) Q := ⟨_, rfl, h⟩
end
theorem allBools_fn {α : Type} (f : α → Bool) : ∀ xs : List α, allBools (xs.map fun a => .bool (f a)) = some (xs.map f)
  | [] => rfl
  | a :: xs => by simp [allBools, allBools_fn f xs]
theorem all_map {α : Type} (f : α → Bool) (xs : List α) : dAll [.list (xs.map fun a => .bool (f a))] = some (.bool (xs.all f)) := by
  simp only [dAll, allBools_fn, Option.bind_some]; rw [List.all_map]; rfl
theorem cut_to {α : Type} {xs : List α} {i : Int} (h : 0 ≤ i) : cutL xs none (some i) = xs.take i.toNat := by
  unfold cutL HT.sIx
  simp only [if_neg (show ¬ i < 0 by omega), List.drop_zero, Nat.sub_zero]
  rw [← List.take_take]
  simp [Nat.min_def]
theorem cut_from {α : Type} {xs : List α} {i : Int} (h : 0 ≤ i) : cutL xs (some i) none = xs.drop i.toNat := by
  unfold cutL HT.sIx
  simp only [if_neg (show ¬ i < 0 by omega)]
  by_cases l : i.toNat ≤ xs.length
  · rw [Nat.min_eq_left l, List.take_of_length_le (by simp)]
  · rw [Nat.min_eq_right (by omega), List.drop_of_length_le (Nat.le_refl _), List.drop_of_length_le (by omega), List.take_nil]
/-! ### comprehensions of two clauses -/
theorem wipe_sub {sl : List (Option R)} {ws vs : List Nat} (h : ∀ v ∈ ws, v ∈ vs) : wipeS (wipeS sl ws) vs = wipeS sl vs := by
  apply List.ext_getElem?
  intro n
  by_cases hn : n ∈ vs
  · rw [wipeS_in' hn, wipeS_in' hn, wipeS_len]
  · rw [wipeS_out hn, wipeS_out hn, wipeS_out fun z => hn (h n z)]
theorem ev_varO {sl : List (Option R)} {os : List (Option Cell)} {i : Nat} {Q : D → Sx → Prop} (h : ∃ j cs, sl[i]? = some (some (.own j)) ∧ os[j]? = some (some (.lst cs)) ∧ Q (.list cs) ⟨sl.set i (some (.dat (.list cs))), os.set j none⟩) : Ev (gVar i ⟨sl, os⟩) Q := by
  obtain ⟨j, cs, e1, e2, h⟩ := h
  exact ⟨_, _, by unfold gVar; simp only [e1, e2], h⟩
theorem ed_pick {Q P : D → Prop} {xs : List D} {i : Int} (h0 : 0 ≤ i) (h1 : i < xs.length) (hp : ∀ x ∈ xs, P x) (h : ∀ x, P x → Q x) : Ed (dIx (.list xs) (.int i)) Q := by
  have hl : i.toNat < xs.length := by omega
  exact ed_ixL h0 (List.getElem?_eq_getElem hl) (h _ (hp _ (List.getElem_mem hl)))
theorem ed_pickS {Q : D → Prop} {P : Nat → Prop} {x : Str} {i : Int} (h0 : 0 ≤ i) (h1 : i < x.length) (hp : ∀ c ∈ x.cps.toList, P c) (h : ∀ c, P c → Q (ch c)) : Ed (dIx (.str x) (.int i)) Q := by
  have hl : i.toNat < x.cps.toList.length := by
    have : x.cps.toList.length = x.length := Array.length_toList
    omega
  exact ed_ixS h0 (List.getElem?_eq_getElem hl) (h _ (hp _ (List.getElem_mem hl)))
open Classical in
theorem ed_ne_good {Q : D → Prop} {d e : D} {m n : Nat} (g : Good m d) (k : Good n e) (q1 : d = e → Q (.bool false)) (q2 : d ≠ e → Q (.bool true)) (l1 : m ≤ 64 := by decide) (l2 : n ≤ 64 := by decide) : Ed (dNe d e) Q := by
  refine Ed.of (dNe_good g k l1 l2) ?_
  by_cases x : d = e
  · rw [decide_eq_true x]; exact q1 x
  · rw [decide_eq_false x]; exact q2 x
open Classical in
theorem ed_eq_good {Q : D → Prop} {d e : D} {m n : Nat} (g : Good m d) (k : Good n e) (q1 : d = e → Q (.bool true)) (q2 : d ≠ e → Q (.bool false)) (l1 : m ≤ 64 := by decide) (l2 : n ≤ 64 := by decide) : Ed (dEq d e) Q := by
  refine Ed.of (dEq_good g k l1 l2) ?_
  by_cases x : d = e
  · rw [decide_eq_true x]; exact q1 x
  · rw [decide_eq_false x]; exact q2 x
theorem set_get {α : Type} (l : List α) (k : Nat) (h : k < l.length) : l.set k l[k] = l := List.set_getElem_self h
/-- a loop that sets its own name alone, and what the lists hold -/
theorem eo_loopS {S : Sx} {Z : Out → Prop} {gg : D → Sx → Option Sx} {body : Sx → Option Out} {ds : List D} (k : Nat) (J : Nat → List (Option Cell) → Prop) (hk : k < S.sl.length) (h0 : J 0 S.os) (hs : ∀ i d x os, ds[i]? = some d → J i os → Es (gg d ⟨S.sl.set k x, os⟩) fun S1 => Eo (body S1) fun o => ∃ x' os', o = .nx ⟨S.sl.set k x', os'⟩ ∧ J (i + 1) os') (hz : ∀ x os, J ds.length os → Z (.nx ⟨S.sl.set k x, os⟩)) : Eo (gLoop gg body ds S) Z := by
  refine eo_loop (fun i T => ∃ x, T.sl = S.sl.set k x ∧ J i T.os) ⟨S.sl[k], (set_get _ _ hk).symm, h0⟩ ?_ ?_
  · rintro i d ⟨sl, os⟩ hd ⟨x, e, h⟩
    cases e
    obtain ⟨S1, e1, o, e2, x', os', rfl, h'⟩ := hs i d x os hd h
    exact ⟨S1, e1, _, e2, _, rfl, x', rfl, h'⟩
  · rintro ⟨sl, os⟩ ⟨x, e, h⟩
    cases e
    exact hz x os h
/-! ### comprehensions whose item changes the lists -/
/-! ### how many unlike ones -/
theorem ev_listRng1 {S : Sx} {Q : D → Sx → Prop} {g : M D} (h : Ev (g S) fun d S1 => ∃ n : Int, d = .int n ∧ -4611686018427387904 ≤ n ∧ n ≤ 16777216 ∧ Q (.list (rng 0 n.toNat)) S1) : Ev (gListRng1 g S) Q := by
  obtain ⟨ds, S1, e1, n, rfl, l1, l2, q⟩ := h
  exact ⟨_, S1, by simp only [gListRng1, e1, Option.bind_some]; rw [if_pos ⟨by omega, by omega⟩], q⟩
theorem ev_OL {sl : List (Option R)} {os : List (Option Cell)} {i : Nat} {f : D → D → Option D} {gb : M D} {Q : D → Sx → Prop} (h : ∃ j cs0, sl[i]? = some (some (.own j)) ∧ os[j]? = some (some (.lst cs0)) ∧ Ev (gb ⟨sl, os⟩) fun d S1 => ∃ cs, S1.os[j]? = some (some (.lst cs)) ∧ Ed (f (.list cs) d) fun z => ∃ b, z = .bool b ∧ Q (.bool b) S1) : Ev (gOL f i gb ⟨sl, os⟩) Q := by
  obtain ⟨j, cs0, h1, h2, d, S1, e1, cs, h3, z, e2, b, rfl, q⟩ := h
  exact ⟨_, _, by simp only [gOL, ownOf, cellOf, h1, h2, e1, h3, e2, Option.bind_some], q⟩
theorem ev_OR {S : Sx} {i : Nat} {f : D → D → Option D} {gb : M D} {Q : D → Sx → Prop} (h : Ev (gb S) fun d S1 => ∃ j cs, S1.sl[i]? = some (some (.own j)) ∧ S1.os[j]? = some (some (.lst cs)) ∧ Ed (f d (.list cs)) fun z => ∃ b, z = .bool b ∧ Q (.bool b) S1) : Ev (gOR f gb i S) Q := by
  obtain ⟨d, S1, e1, j, cs, h1, h2, z, e2, b, rfl, q⟩ := h
  exact ⟨_, _, by simp only [gOR, ownOf, cellOf, h1, h2, e1, e2, Option.bind_some], q⟩
theorem ev_rep {S : Sx} {f : D → D → Option D} {ga gb : M D} {Q : D → Sx → Prop} (h : Ev (gBin f ga gb S) fun d S1 => ∃ ds, d = .list ds ∧ Q (.list ds) S1) : Ev (gRep f ga gb S) Q := by
  obtain ⟨d, S1, e1, ds, rfl, q⟩ := h
  exact ⟨_, _, by simp only [gRep, e1, Option.bind_some], q⟩
theorem ed_mulL {Q : D → Prop} {xs : List D} {k : Int} (k0 : 0 ≤ k) (k1 : k ≤ 16777216) (l : xs.length * k.toNat ≤ 16777216) (h : Q (.list (List.replicate k.toNat xs).flatten)) : Ed (dMul (.list xs) (.int k)) Q := ⟨_, by
  simp only [dMul, line_eq]
  rw [if_pos ⟨by omega, by omega, l⟩], h⟩
theorem rep_one (d : D) : ∀ n : Nat, (List.replicate n [d]).flatten = List.replicate n d
  | 0 => rfl
  | n + 1 => by rw [List.replicate_succ, List.replicate_succ, List.flatten_cons, rep_one d n]; rfl
end Fu

set_option maxHeartbeats 16000000
namespace Lw
open PySem PySem.Spec PyProof.Rows L2 RZ Fu
def g__law_reel : Sx → Option Out :=
  (qSeq (qSet 1 (gBin dPow (gC (.int 3)) (gC (.int 60)))) (qSeq (qFor (gItems (gScrSl 0 gNo (gSo (gC (.int 63))))) (sName 2) (qSet 1 (gBin dMod (gBin dAdd (gBin dAdd (gBin dMul (gVar 1) (gVar 1)) (gBin dMod (gVar 2) (gC (.int 1000000000000000003)))) (gC (.int 11))) (gBin dSub (gBin dMul (gBin dPow (gC (.int 2)) (gC (.int 64))) (gBin dPow (gC (.int 2)) (gC (.int 63)))) (gC (.int 1)))))) (qSeq (qSet 3 (gLc (gItems (gScrSl 0 gNo (gSo (gC (.int 63))))) (sName 2) (gB (gBin dGe (gVar 2) (gBin dPow (gC (.int 10)) (gC (.int 18))))) (gBin dSub (gVar 2) (gBin dPow (gC (.int 10)) (gC (.int 18)))) [2])) (qRetO (gLst (gCons (gVar 3) (gCons (gBin dAdd (gLc (gItems (gScrSl 0 gNo (gSo (gC (.int 63))))) (sName 2) gYes (gBin dMod (gVar 2) (gC (.int 1000003))) [2]) (gLst (gCons (gC (.int 41)) gNil))) (gCons (gC (.int 0)) (gCons (gVar 1) gNil)))))))))
def m__law_reel := mScrN 4 g__law_reel
def g__law_draw : Sx → Option Out :=
  (qSeq (qIf (gB (gBin dNe (gIxO 0 (gC (.int 0))) (gLst gNil))) (qSeq (qSet 2 (gBin dIx (gIxO 0 (gC (.int 0))) (gC (.int 0)))) (qSeq (qSetO 0 (gC (.int 0)) (gBin dAdd (gBin dMul (gLst (gCons (gBin dDiv (gVar 2) (gVar 1)) gNil)) (gCall dInt (gCons (gBin dGe (gVar 2) (gVar 1)) gNil))) (gSl (gIxO 0 (gC (.int 0))) (gSo (gC (.int 1))) gNo))) (qRet (gBin dMod (gVar 2) (gVar 1))))) qNx) (qSeq (qSetO 0 (gC (.int 2)) (gBin dAdd (gIxO 0 (gC (.int 2))) (gC (.int 1)))) (qSeq (qSet 3 (gBin dIx (gIxO 0 (gC (.int 1))) (gBin dMod (gIxO 0 (gC (.int 2))) (gCall dLen (gCons (gIxO 0 (gC (.int 1))) gNil))))) (qSeq (qSet 4 (gBin dAdd (gBin dAdd (gBin dMul (gIxO 0 (gC (.int 3))) (gIxO 0 (gC (.int 3)))) (gBin dMul (gBin dAdd (gVar 3) (gC (.int 7))) (gC (.int 69621)))) (gBin dMul (gIxO 0 (gC (.int 2))) (gC (.int 1000003))))) (qSeq (qSetO 0 (gC (.int 3)) (gBin dMod (gVar 4) (gBin dSub (gBin dMul (gBin dPow (gC (.int 2)) (gC (.int 64))) (gBin dPow (gC (.int 2)) (gC (.int 63)))) (gC (.int 1))))) (qRet (gBin dMod (gBin dDiv (gIxO 0 (gC (.int 3))) (gBin dPow (gC (.int 2)) (gC (.int 40)))) (gVar 1))))))))
def m__law_draw := mIO 5 g__law_draw
def g__law_dressed (self : List D → List D → Option (D × List D)) : Sx → Option Out :=
  (qSeq (qIf (gB (gIsi "tuple" (gVar 1))) (qSeq (qSet 2 (gLc (gItems (gVar 1)) (sName 3) gYes (gIO 0 1 self (gCons (gVar 3) gNil)) [3])) (qRet (gIf (gB (gBin dEq (gIO 0 1 m__law_draw (gCons (gC (.int 2)) gNil)) (gC (.int 0)))) (gVar 2) (gCall dTuple (gCons (gVar 2) gNil))))) qNx) (qRet (gVar 1)))
def m__law_dressed : Nat → List D → List D → Option (D × List D)
  | 0 => fun _ _ => none
  | n + 1 => mIO 4 (g__law_dressed (m__law_dressed n))
def g_is_whole : Sx → Option Out :=
  (qRet (gAndV (gIsi "int" (gVar 0)) (gAndV (gNotV (gIsi "bool" (gVar 0))) (gBin dGe (gVar 0) (gC (.int 0))))))
def m_is_whole := mF 1 g_is_whole
def g_is_row : Sx → Option Out :=
  (qRet (gAndV (gIsi2 "list" "tuple" (gVar 0)) (gBin dEq (gCall dLen (gCons (gVar 0) gNil)) (gVar 1))))
def m_is_row := mF 2 g_is_row
def g_need_place : Sx → Option Out :=
  (qIf (gOr (gNot (gB (gCallF 1 m_is_whole (gCons (gVar 1) gNil)))) (gB (gBin dGe (gVar 1) (gBin dIx (gVar 0) (gC (.int 0)))))) qNone qNx)
def m_need_place := mF 2 g_need_place
def g_all_ends : Sx → Option Out :=
  (qRet (gLc2 (gRng1 (gCons (gCall dLen (gCons (gBin dIx (gVar 0) (gC (.int 1))) gNil)) gNil)) (sName 1) gYes (gRng1 (gCons (gC (.int 2)) gNil)) (sName 2) gYes (gTup (gCons (gVar 1) (gCons (gVar 2) gNil))) [1, 2] [2]))
def m_all_ends := mF 3 g_all_ends
def g_place_of : Sx → Option Out :=
  (qRet (gBin dIx (gBin dIx (gBin dIx (gVar 0) (gC (.int 1))) (gBin dIx (gVar 1) (gC (.int 0)))) (gBin dIx (gVar 1) (gC (.int 1)))))
def m_place_of := mF 2 g_place_of
def g_ends_at : Sx → Option Out :=
  (qSeq (qDrop (gCallF 2 m_need_place (gCons (gVar 0) (gCons (gVar 1) gNil)))) (qRet (gLc (gItems (gCallF 1 m_all_ends (gCons (gVar 0) gNil))) (sName 2) (gB (gBin dEq (gCallF 2 m_place_of (gCons (gVar 0) (gCons (gVar 2) gNil))) (gVar 1))) (gVar 2) [2])))
def m_ends_at := mF 3 g_ends_at
def g_is_end : Sx → Option Out :=
  (qSeq (qIf (gOr (gNot (gB (gCallF 2 m_is_row (gCons (gVar 1) (gCons (gC (.int 2)) gNil))))) (gOr (gNot (gB (gCallF 1 m_is_whole (gCons (gBin dIx (gVar 1) (gC (.int 0))) gNil)))) (gNot (gB (gCallF 1 m_is_whole (gCons (gBin dIx (gVar 1) (gC (.int 1))) gNil)))))) (qRet (gC (.bool false))) qNx) (qRet (gAndV (gBin dLt (gBin dIx (gVar 1) (gC (.int 0))) (gCall dLen (gCons (gBin dIx (gVar 0) (gC (.int 1))) gNil))) (gBin dLt (gBin dIx (gVar 1) (gC (.int 1))) (gC (.int 2))))))
def m_is_end := mF 2 g_is_end
def g__law_net_k05 : Sx → Option Out :=
  (qSeq (qSet 2 (gLst (gCons (gIO 0 1 m__law_draw (gCons (gC (.int 4)) gNil)) (gCons (gBin dAdd (gC (.int 1)) (gIO 0 1 m__law_draw (gCons (gC (.int 4)) gNil))) (gCons (gBin dAdd (gC (.int 2)) (gIO 0 1 m__law_draw (gCons (gC (.int 7)) gNil))) (gCons (gIO 0 1 m__law_draw (gCons (gC (.int 25)) gNil)) gNil)))))) (qSeq (qSet 3 (gBin dIx (gVar 2) (gIO 0 1 m__law_draw (gCons (gC (.int 4)) gNil)))) (qSeq (qSet 4 (gBin dIx (gLst (gCons (gIO 0 1 m__law_draw (gCons (gC (.int 9)) gNil)) (gCons (gIO 0 1 m__law_draw (gCons (gC (.int 16)) gNil)) (gCons (gIO 0 1 m__law_draw (gCons (gBin dAdd (gVar 1) (gC (.int 1))) gNil)) gNil)))) (gIO 0 1 m__law_draw (gCons (gC (.int 3)) gNil)))) (qSeq (qSet 5 (gBin dIx (gLst (gCons (gC (.str "a")) (gCons (gC (.str "ab")) (gCons (gC (.str "aab")) (gCons (gC (.str "abc")) (gCons (gC (.str "abcdxyz")) gNil)))))) (gIO 0 1 m__law_draw (gCons (gC (.int 5)) gNil)))) (qSeq (qSet 6 (gBin dAdd (gC (.int 1)) (gIO 0 1 m__law_draw (gCons (gCall dMax2 (gCons (gC (.int 1)) (gCons (gVar 3) gNil))) gNil)))) (qSeq (qOwn 7 (gLst gNil)) (qSeq (qFor (gRng1 (gCons (gBin dMul (gCall dMin2 (gCons (gVar 4) (gCons (gVar 1) gNil))) (gCall dInt (gCons (gBin dGt (gVar 3) (gC (.int 0))) gNil))) gNil)) (sName 8) (qDrop (gApp 7 (gTup (gCons (gIO 0 1 m__law_draw (gCons (gVar 6) gNil)) (gCons (gIO 0 1 m__law_draw (gCons (gVar 6) gNil)) (gCons (gBin dIx (gVar 5) (gIO 0 1 m__law_draw (gCons (gCall dLen (gCons (gVar 5) gNil)) gNil))) gNil))))))) (qRet (gTup (gCons (gVar 3) (gCons (gCall dTuple (gCons (gVar 7) gNil)) gNil)))))))))))
def m__law_net_k05 := mIO 9 g__law_net_k05
def g_need_place_Z : Sx → Option (Zr Out) :=
  (zIf (gOr (gNot (gB (gCallF 1 m_is_whole (gCons (gVar 1) gNil)))) (gB (gBin dGe (gVar 1) (gBin dIx (gVar 0) (gC (.int 0)))))) (zRaise "NoPlace") (zS qNx))
def m_need_place_Z := mZ 2 g_need_place_Z
def g_ends_at_Z : Sx → Option (Zr Out) :=
  (zSeq (zDrop (zCall 2 m_need_place_Z (gCons (gVar 0) (gCons (gVar 1) gNil)))) (zS (qRet (gLc (gItems (gCallF 1 m_all_ends (gCons (gVar 0) gNil))) (sName 2) (gB (gBin dEq (gCallF 2 m_place_of (gCons (gVar 0) (gCons (gVar 2) gNil))) (gVar 1))) (gVar 2) [2]))))
def m_ends_at_Z := mZ 3 g_ends_at_Z
def g_want_of : Sx → Option Out :=
  (qSeq (qSet 1 (gCall dSum (gCons (gVar 0) gNil))) (qRet (gCall (dPick PySem.W.maxD) (gCons (gBin dAdd (gLst (gCons (gBin dMod (gVar 1) (gC (.int 2))) gNil)) (gLc (gItems (gVar 0)) (sName 2) gYes (gBin dSub (gBin dMul (gC (.int 2)) (gVar 2)) (gVar 1)) [2])) gNil))))
def m_want_of := mF 3 g_want_of
def g_company_of : Sx → Option Out :=
  (qRet (gBin dIx (gBin dIx (gBin dIx (gVar 0) (gC (.int 1))) (gBin dIx (gVar 1) (gC (.int 0)))) (gC (.int 2))))
def m_company_of := mF 2 g_company_of
def g_by_companies_N : Sx → Option Out :=
  (qSeq (qDict0 2) (qSeq (qFor (gItems (gCallF 2 m_ends_at (gCons (gVar 0) (gCons (gVar 1) gNil)))) (sName 3) (qDrop (gSetdApp 2 3 (gCallF 2 m_company_of (gCons (gVar 0) (gCons (gVar 3) gNil)))))) (qRetO (gSortV 2))))
def m_by_companies_N := mN 4 g_by_companies_N
def g_want_at : Sx → Option Out :=
  (qRet (gCallF 1 m_want_of (gCons (gLc (gItems (gCallN 2 m_by_companies_N (gCons (gVar 0) (gCons (gVar 1) gNil)))) (sName 2) gYes (gCall dLen (gCons (gVar 2) gNil)) [2]) gNil)))
def m_want_at := mF 3 g_want_at
def g_plan_at_N2 : Sx → Option Out :=
  (qSeq (qSet 2 (gCallN 2 m_by_companies_N (gCons (gVar 0) (gCons (gVar 1) gNil)))) (qSeq (qSet 3 (gCallF 1 m_want_of (gCons (gLc (gItems (gVar 2)) (sName 8) gYes (gCall dLen (gCons (gVar 8) gNil)) [8]) gNil))) (qSeq (qSet 4 (gLc2 (gItems (gVar 2)) (sName 8) gYes (gItems (gVar 8)) (sName 9) gYes (gVar 9) [8, 9] [9])) (qSeq (qOwn 5 (gNewL (gSl (gVar 4) gNo (gSo (gVar 3))))) (qSeq (qSet 6 (gSl (gVar 4) (gSo (gVar 3)) gNo)) (qSeq (qSet 7 (gBin dDiv (gCall dLen (gCons (gVar 6) gNil)) (gC (.int 2)))) (qRetR (rTup2 (rNew (gListZip (gCons (gSl (gVar 6) gNo (gSo (gVar 7))) (gCons (gSl (gVar 6) (gSo (gVar 7)) gNo) gNil)))) (rOwn 5)))))))))
def m_plan_at_N2 := mN2 10 g_plan_at_N2
def g_are_pairs : Sx → Option Out :=
  (qSeq (qIf (gNot (gB (gIsi2 "list" "tuple" (gVar 2)))) (qRet (gC (.bool false))) qNx) (qSeq (qFor (gItems (gVar 2)) (sName 3) (qSeq (qIf (gOr (gNot (gB (gCallF 2 m_is_row (gCons (gVar 3) (gCons (gC (.int 2)) gNil))))) (gOr (gNot (gB (gCallF 2 m_is_end (gCons (gVar 0) (gCons (gBin dIx (gVar 3) (gC (.int 0))) gNil))))) (gNot (gB (gCallF 2 m_is_end (gCons (gVar 0) (gCons (gBin dIx (gVar 3) (gC (.int 1))) gNil))))))) (qRet (gC (.bool false))) qNx) (qIf (gB (gBin dEq (gCallF 2 m_company_of (gCons (gVar 0) (gCons (gBin dIx (gVar 3) (gC (.int 0))) gNil))) (gCallF 2 m_company_of (gCons (gVar 0) (gCons (gBin dIx (gVar 3) (gC (.int 1))) gNil))))) (qRet (gC (.bool false))) qNx))) (qRet (gC (.bool true)))))
def m_are_pairs := mF 4 g_are_pairs
def g_plan_shows : Sx → Option Out :=
  (qSeq (qSet 3 (gCallF 2 m_ends_at (gCons (gVar 0) (gCons (gVar 1) gNil)))) (qSeq (qIf (gOr (gNot (gB (gCallF 2 m_is_row (gCons (gVar 2) (gCons (gC (.int 2)) gNil))))) (gOr (gNot (gB (gCallF 3 m_are_pairs (gCons (gVar 0) (gCons (gVar 1) (gCons (gBin dIx (gVar 2) (gC (.int 0))) gNil)))))) (gNot (gB (gIsi2 "list" "tuple" (gBin dIx (gVar 2) (gC (.int 1)))))))) (qRet (gC (.bool false))) qNx) (qSeq (qIf (gNot (gB (gCall dAll (gCons (gLc (gItems (gBin dIx (gVar 2) (gC (.int 1)))) (sName 5) gYes (gCallF 2 m_is_end (gCons (gVar 0) (gCons (gVar 5) gNil))) [5]) gNil)))) (qRet (gC (.bool false))) qNx) (qSeq (qSet 4 (gBin dAdd (gLc2 (gItems (gBin dIx (gVar 2) (gC (.int 0)))) (sName 6) gYes (gItems (gVar 6)) (sName 5) gYes (gCall dTuple (gCons (gVar 5) gNil)) [6, 5] [5]) (gLc (gItems (gBin dIx (gVar 2) (gC (.int 1)))) (sName 5) gYes (gCall dTuple (gCons (gVar 5) gNil)) [5]))) (qRet (gBin dEq (gCall dSorted (gCons (gVar 4) gNil)) (gVar 3)))))))
def m_plan_shows := mF 7 g_plan_shows
def g_multiplied : Sx → Option Out :=
  (qSeq (qOwn 2 (gRep dMul (gLst (gCons (gC (.int 0)) gNil)) (gBin dSub (gBin dAdd (gCall dLen (gCons (gVar 0) gNil)) (gCall dLen (gCons (gVar 1) gNil))) (gC (.int 1))))) (qSeq (qFor (gEnumA (gCons (gVar 0) gNil)) (sTup 2 (sCons (sName 3) (sCons (sName 4) sNil))) (qFor (gEnumA (gCons (gVar 1) gNil)) (sTup 2 (sCons (sName 5) (sCons (sName 6) sNil))) (qAugIx 2 (gBin dAdd (gVar 3) (gVar 5)) (gBin dMul (gVar 4) (gVar 6))))) (qRet (gVar 2))))
def m_multiplied := mF 7 g_multiplied
def g_within_company : Sx → Option Out :=
  (qSeq (qOwn 1 (gLst (gCons (gC (.int 1)) gNil))) (qSeq (qFor (gRng2 (gCons (gC (.int 1)) (gCons (gBin dAdd (gBin dDiv (gVar 0) (gC (.int 2))) (gC (.int 1))) gNil))) (sName 2) (qSeq (qSet 3 (gBin dAdd (gBin dSub (gVar 0) (gBin dMul (gC (.int 2)) (gVar 2))) (gC (.int 2)))) (qDrop (gApp 1 (gBin dDiv (gBin dDiv (gBin dMul (gBin dMul (gUn dNeg (gIxO 1 (gUn dNeg (gC (.int 1))))) (gVar 3)) (gBin dSub (gVar 3) (gC (.int 1)))) (gC (.int 2))) (gVar 2)))))) (qRet (gVar 1))))
def m_within_company := mF 4 g_within_company
def g_all_paired : Sx → Option Out :=
  (qSeq (qSet 1 (gC (.int 1))) (qSeq (qFor (gRng3 (gCons (gC (.int 1)) (gCons (gVar 0) (gCons (gC (.int 2)) gNil)))) (sName 2) (qAugM 1 (gVar 2))) (qRet (gVar 1))))
def m_all_paired := mF 3 g_all_paired
def g_plans_counted : Sx → Option Out :=
  (qSeq (qSet 2 (gLc (gItems (gCallN 2 m_by_companies_N (gCons (gVar 0) (gCons (gVar 1) gNil)))) (sName 6) gYes (gCall dLen (gCons (gVar 6) gNil)) [6])) (qSeq (qSet 3 (gCall dSum (gCons (gVar 2) gNil))) (qSeq (qIf (gB (gBin dEq (gBin dMod (gVar 3) (gC (.int 2))) (gC (.int 1)))) (qRet (gC (.int 0))) qNx) (qSeq (qSet 4 (gLst (gCons (gC (.int 1)) gNil))) (qSeq (qFor (gItems (gVar 2)) (sName 5) (qSet 4 (gCallF 2 m_multiplied (gCons (gVar 4) (gCons (gCallF 1 m_within_company (gCons (gVar 5) gNil)) gNil))))) (qRet (gCall dSum (gCons (gLc (gEnumA (gCons (gVar 4) gNil)) (sTup 2 (sCons (sName 7) (sCons (sName 8) sNil))) gYes (gBin dMul (gVar 8) (gCallF 1 m_all_paired (gCons (gBin dSub (gVar 3) (gBin dMul (gC (.int 2)) (gVar 7))) gNil))) [7, 8]) gNil))))))))
def m_plans_counted := mF 9 g_plans_counted
def g__law_kind_of_k12 : Sx → Option Out :=
  (qSeq (qSet 1 (gLst (gCons (gTup (gCons (gC (.str "NoWeb")) (gCons (gIsE 0 ["NoPlace"] fun c => decide (c = "NoWeb")) gNil))) (gCons (gTup (gCons (gC (.str "NoPlace")) (gCons (gIsE 0 ["NoPlace"] fun c => decide (c = "NoPlace")) gNil))) gNil)))) (qSeq (qSet 1 (gBin dAdd (gVar 1) (gLst (gCons (gTup (gCons (gC (.str "NoCompany")) (gCons (gIsE 0 ["NoPlace"] fun c => decide (c = "NoCompany")) gNil))) (gCons (gTup (gCons (gC (.str "NoLine")) (gCons (gIsE 0 ["NoPlace"] fun c => decide (c = "NoLine")) gNil))) gNil))))) (qSeq (qSet 1 (gBin dAdd (gVar 1) (gLst (gCons (gTup (gCons (gC (.str "NoEnd")) (gCons (gIsE 0 ["NoPlace"] fun c => decide (c = "NoEnd")) gNil))) (gCons (gTup (gCons (gC (.str "NoRide")) (gCons (gIsE 0 ["NoPlace"] fun c => decide (c = "NoRide")) gNil))) gNil))))) (qSeq (qSet 1 (gBin dAdd (gVar 1) (gLst (gCons (gTup (gCons (gC (.str "NoNumber")) (gCons (gIsE 0 ["NoPlace"] fun c => decide (c = "NoNumber")) gNil))) (gCons (gTup (gCons (gC (.str "NoTurning")) (gCons (gIsE 0 ["NoPlace"] fun c => decide (c = "NoTurning")) gNil))) gNil))))) (qSeq (qSet 1 (gBin dAdd (gVar 1) (gLst (gCons (gTup (gCons (gC (.str "TooMany")) (gCons (gIsE 0 ["NoPlace"] fun c => decide (c = "TooMany")) gNil))) (gCons (gTup (gCons (gC (.str "NoText")) (gCons (gIsE 0 ["NoPlace"] fun c => decide (c = "NoText")) gNil))) gNil))))) (qSeq (qSet 1 (gBin dAdd (gVar 1) (gLst (gCons (gTup (gCons (gC (.str "NoForm")) (gCons (gIsE 0 ["NoPlace"] fun c => decide (c = "NoForm")) gNil))) (gCons (gTup (gCons (gC (.str "NoneYet")) (gCons (gIsE 0 ["NoPlace"] fun c => decide (c = "NoneYet")) gNil))) gNil))))) (qSeq (qSet 2 (gLc (gItems (gVar 1)) (sTup 2 (sCons (sName 3) (sCons (sName 4) sNil))) (gB (gVar 4)) (gVar 3) [3, 4])) (qRet (gIf (gAnd (gB (gBin dEq (gCall dLen (gCons (gVar 2) gNil)) (gC (.int 1)))) (gB (gIsE 0 ["NoPlace"] fun _ => true))) (gBin dIx (gVar 2) (gC (.int 0))) (gC (.str "odd")))))))))))
def m__law_kind_of_k12 := mX 5 g__law_kind_of_k12
def g_by_companies_X : Sx → Option (Zr Out) :=
  (zSeq (zS (qDict0 2)) (zSeq (zErr (errOf (zCall 2 m_ends_at_Z (gCons (gVar 0) (gCons (gVar 1) gNil))))) (zS qNone)))
def m_by_companies_X := mZ 4 g_by_companies_X
def g_want_at_X : Sx → Option (Zr Out) :=
  (zRet (zCallF 1 m_want_of (zOne (zErr (errOf (zCall 2 m_by_companies_X (gCons (gVar 0) (gCons (gVar 1) gNil))))))))
def m_want_at_X := mZ 3 g_want_at_X
def g_plan_at_X : Sx → Option (Zr Out) :=
  (zSeq (zSet 2 (zCall 2 m_by_companies_X (gCons (gVar 0) (gCons (gVar 1) gNil)))) (zS (qSeq qNone (qSeq qNone (qSeq qNone (qSeq qNone (qSeq qNone qNone)))))))
def m_plan_at_X := mZ 10 g_plan_at_X
def g_plan_shows_X : Sx → Option (Zr Out) :=
  (zSeq (zSet 3 (zCall 2 m_ends_at_Z (gCons (gVar 0) (gCons (gVar 1) gNil)))) (zS (qSeq qNone (qSeq qNone (qSeq qNone qNone)))))
def m_plan_shows_X := mZ 7 g_plan_shows_X
def g_plans_counted_X : Sx → Option (Zr Out) :=
  (zSeq (zErr (errOf (zCall 2 m_by_companies_X (gCons (gVar 0) (gCons (gVar 1) gNil))))) (zS (qSeq qNone (qSeq qNone (qSeq qNone (qSeq qNone qNone))))))
def m_plans_counted_X := mZ 9 g_plans_counted_X
def g__law_asked_k12 : Sx → Option Out :=
  (qSeq (qSet 3 (gC .none)) (qSeq (qTry ["NoPlace"] 4 3 (zIf (gB (gBin dEq (gVar 0) (gC (.int 0)))) (zDrop (zCall 2 (orZ m_want_at_X m_want_at) (gCons (gVar 1) (gCons (gVar 2) gNil)))) (zIf (gB (gBin dEq (gVar 0) (gC (.int 1)))) (zDrop (zCall 2 (orZ m_plan_at_X (asT2 m_plan_at_N2)) (gCons (gVar 1) (gCons (gVar 2) gNil)))) (zIf (gB (gBin dEq (gVar 0) (gC (.int 2)))) (zDrop (zCall 3 (orZ m_plan_shows_X m_plan_shows) (gCons (gVar 1) (gCons (gVar 2) (gCons (gBin dIx (gLst (gCons (gC .none) (gCons (gTup (gCons (gLst gNil) (gCons (gLst gNil) gNil))) (gCons (gC (.int 5)) gNil)))) (gBin dMod (gCall dLen (gCons (gBin dIx (gVar 1) (gC (.int 1))) gNil)) (gC (.int 3)))) gNil))))) (zDrop (zCall 2 (orZ m_plans_counted_X m_plans_counted) (gCons (gVar 1) (gCons (gVar 2) gNil)))))))) (qRet (gIf (gB (gIsN 3)) (gC (.str "none")) (gCallX 3 m__law_kind_of_k12)))))
def m__law_asked_k12 := mF 5 g__law_asked_k12
def g__law_draw_k15 : Sx → Option Out :=
  (qSeq (qIf (gB (gBin dGt (gIxO 0 (gC (.int 0))) (gC (.int 0)))) (qSeq (qSet 2 (gBin dMod (gIxO 0 (gC (.int 0))) (gVar 1))) (qSeq (qSetO 0 (gC (.int 0)) (gBin dDiv (gIxO 0 (gC (.int 0))) (gVar 1))) (qRet (gVar 2)))) qNx) (qSeq (qSetO 0 (gC (.int 2)) (gBin dAdd (gIxO 0 (gC (.int 2))) (gC (.int 1)))) (qSeq (qSet 3 (gBin dMod (gBin dMul (gIxO 0 (gC (.int 1))) (gIxO 0 (gC (.int 1)))) (gC (.int 2305843009213693951)))) (qSeq (qSetO 0 (gC (.int 1)) (gBin dMod (gBin dAdd (gBin dAdd (gVar 3) (gBin dMul (gBin dMul (gC (.int 7919)) (gIxO 0 (gC (.int 2)))) (gIxO 0 (gC (.int 1))))) (gC (.int 104729))) (gC (.int 2305843009213693951)))) (qRet (gBin dMod (gBin dDiv (gIxO 0 (gC (.int 1))) (gC (.int 65537))) (gVar 1)))))))
def m__law_draw_k15 := mIO 4 g__law_draw_k15
end Lw

set_option maxHeartbeats 4000000
namespace Fu
open PySem
/-! ### comprehensions over typed items -/
theorem turns_typed {α : Type} {gg : D → Sx → Option Sx} {gt : M Bool} {ge : M D} {vs : List Nat} {b : α → Bool} {enc f : α → D} {w : List (Option R)} {os : List (Option Cell)} :
    ∀ (xs : List α) (sl : List (Option R)), wipeS sl vs = w → (∀ x ∈ xs, ∃ sl1, gg (enc x) ⟨w, os⟩ = some ⟨sl1, os⟩ ∧ wipeS sl1 vs = w ∧ gt ⟨sl1, os⟩ = some (b x, ⟨sl1, os⟩) ∧ (b x = true → ge ⟨sl1, os⟩ = some (f x, ⟨sl1, os⟩))) →
      ∃ sl', wipeS sl' vs = w ∧ gTurns gg gt ge vs (xs.map enc) ⟨sl, os⟩ = some ((xs.filter b).map f, ⟨sl', os⟩)
  | [], sl, e, _ => ⟨sl, e, rfl⟩
  | x :: xs, sl, e, h => by
    obtain ⟨sl1, h1, h2, h3, h4⟩ := h x List.mem_cons_self
    obtain ⟨sl', e', ih⟩ := turns_typed xs sl1 h2 fun y hy => h y (List.mem_cons_of_mem _ hy)
    refine ⟨sl', e', ?_⟩
    rw [List.map_cons, gTurns]
    simp only [e, h1, h3, Option.bind_some]
    cases hb : b x with
    | true => simp [h4 hb, ih, hb]
    | false => simp [ih, hb]
theorem ev_lcX {α : Type} {S : Sx} {Q : D → Sx → Prop} {gi : M (List D)} {gg : D → Sx → Option Sx} {gt : M Bool} {ge : M D} {vs : List Nat} {xs : List α} {enc : α → D} {b : α → Bool} {g : α → D}
    (h : Ev (gi S) fun ds S1 => ds = xs.map enc ∧ (∀ x ∈ xs, Es (gg (enc x) ⟨wipeS S1.sl vs, S1.os⟩) fun S2 => wipeS S2.sl vs = wipeS S1.sl vs ∧ S2.os = S1.os ∧ Ev (gt S2) fun c S3 => S3 = S2 ∧ c = b x ∧ (b x = true → Ev (ge S2) fun e S4 => e = g x ∧ S4 = S2)) ∧ Q (.list ((xs.filter b).map g)) S1) : Ev (gLc gi gg gt ge vs S) Q := by
  obtain ⟨ds, ⟨sl1, os1⟩, e1, rfl, h1, q⟩ := h
  obtain ⟨sl', e', ht⟩ := turns_typed (gg := gg) (gt := gt) (ge := ge) (b := b) (enc := enc) (f := g) xs sl1 rfl fun d hd => by
    obtain ⟨⟨sl2, os2⟩, e2, e3, e4, c, S3, e5, e6, e7, e8⟩ := h1 d hd
    cases e4
    subst e7 e6
    exact ⟨sl2, e2, e3, e5, fun hb => (e8 hb).eq⟩
  refine ⟨_, _, ?_, q⟩
  unfold gLc
  rw [e1]
  simp only [Option.bind_some, ht, backS_same e']
/-- two clauses, typed -/
theorem turns2_typed {α β : Type} {gg : D → Sx → Option Sx} {gt : M Bool} {gi1 : M (List D)} {gg1 : D → Sx → Option Sx} {gt1 : M Bool} {ge : M D} {vs vs1 : List Nat} {b : α → Bool} {enc : α → D} {es : α → List β} {enc1 : α → β → D} {b1 : α → β → Bool} {f : α → β → D} {w : List (Option R)} {os : List (Option Cell)} (hv : ∀ v ∈ vs1, v ∈ vs) :
    ∀ (xs : List α) (sl : List (Option R)), wipeS sl vs = w → (∀ d ∈ xs, ∃ sl1, gg (enc d) ⟨w, os⟩ = some ⟨sl1, os⟩ ∧ wipeS sl1 vs = w ∧ gt ⟨sl1, os⟩ = some (b d, ⟨sl1, os⟩) ∧ (b d = true → gi1 ⟨sl1, os⟩ = some ((es d).map (enc1 d), ⟨sl1, os⟩) ∧
        ∀ e ∈ es d, ∃ sl2, gg1 (enc1 d e) ⟨wipeS sl1 vs1, os⟩ = some ⟨sl2, os⟩ ∧ wipeS sl2 vs1 = wipeS sl1 vs1 ∧ gt1 ⟨sl2, os⟩ = some (b1 d e, ⟨sl2, os⟩) ∧ (b1 d e = true → ge ⟨sl2, os⟩ = some (f d e, ⟨sl2, os⟩)))) →
      ∃ sl', wipeS sl' vs = w ∧ gTurns2 gg gt gi1 gg1 gt1 ge vs vs1 (xs.map enc) ⟨sl, os⟩ = some ((xs.filter b).flatMap (fun d => ((es d).filter (b1 d)).map (f d)), ⟨sl', os⟩)
  | [], sl, e, _ => ⟨sl, e, rfl⟩
  | d :: ds, sl, e, h => by
    obtain ⟨sl1, h1, h2, h3, h4⟩ := h d List.mem_cons_self
    have hr : ∀ d ∈ ds, _ := fun x hx => h x (List.mem_cons_of_mem _ hx)
    cases hb : b d with
    | true =>
      obtain ⟨h5, h6⟩ := h4 hb
      obtain ⟨sl3, e3, h7⟩ := turns_typed (enc := enc1 d) (es d) sl1 rfl h6
      have e4 : wipeS sl3 vs = w := by rw [← wipe_sub hv, e3, wipe_sub hv, h2]
      obtain ⟨sl', e', ih⟩ := turns2_typed hv ds sl3 e4 hr
      refine ⟨sl', e', ?_⟩
      rw [List.map_cons, gTurns2]
      simp only [e, h1, h3, Option.bind_some, hb, if_true, h5, h7, ih, List.filter_cons_of_pos hb, List.flatMap_cons]
    | false =>
      obtain ⟨sl', e', ih⟩ := turns2_typed hv ds sl1 h2 hr
      refine ⟨sl', e', ?_⟩
      rw [List.map_cons, gTurns2]
      simp [e, h1, h3, hb, ih]
theorem ev_lc2X {α β : Type} {S : Sx} {Q : D → Sx → Prop} {gi : M (List D)} {gg : D → Sx → Option Sx} {gt : M Bool} {gi1 : M (List D)} {gg1 : D → Sx → Option Sx} {gt1 : M Bool} {ge : M D} {vs vs1 : List Nat} {xs : List α} {enc : α → D} {b : α → Bool} {es : α → List β} {enc1 : α → β → D} {b1 : α → β → Bool} {f : α → β → D} (hv : ∀ v ∈ vs1, v ∈ vs)
    (h : Ev (gi S) fun ds S1 => ds = xs.map enc ∧ (∀ d ∈ xs, Es (gg (enc d) ⟨wipeS S1.sl vs, S1.os⟩) fun S2 => wipeS S2.sl vs = wipeS S1.sl vs ∧ S2.os = S1.os ∧ Ev (gt S2) fun c S3 => S3 = S2 ∧ c = b d ∧ (b d = true → Ev (gi1 S2) fun ys S4 => (ys = (es d).map (enc1 d) ∧ S4 = S2) ∧
      ∀ e ∈ es d, Es (gg1 (enc1 d e) ⟨wipeS S2.sl vs1, S2.os⟩) fun S5 => wipeS S5.sl vs1 = wipeS S2.sl vs1 ∧ S5.os = S2.os ∧ Ev (gt1 S5) fun c S6 => S6 = S5 ∧ c = b1 d e ∧ (b1 d e = true → Ev (ge S5) fun z S7 => z = f d e ∧ S7 = S5))) ∧
      ((xs.filter b).flatMap (fun d => ((es d).filter (b1 d)).map (f d))).length ≤ 16777216 ∧ Q (.list ((xs.filter b).flatMap (fun d => ((es d).filter (b1 d)).map (f d)))) S1) : Ev (gLc2 gi gg gt gi1 gg1 gt1 ge vs vs1 S) Q := by
  obtain ⟨ds, ⟨sl1, os1⟩, e1, rfl, h1, l, q⟩ := h
  obtain ⟨sl', e', ht⟩ := turns2_typed (gg := gg) (gt := gt) (gi1 := gi1) (gg1 := gg1) (gt1 := gt1) (ge := ge) (b := b) (enc := enc) (es := es) (enc1 := enc1) (b1 := b1) (f := f) hv xs sl1 rfl fun d hd => by
    obtain ⟨⟨sl2, os2⟩, e2, e3, e4, c, S3, e5, e6, e7, e8⟩ := h1 d hd
    cases e4
    subst e7 e6
    refine ⟨sl2, e2, e3, e5, fun hb => ?_⟩
    obtain ⟨ys, S4, e9, ⟨rfl, rfl⟩, e10⟩ := e8 hb
    refine ⟨e9, fun e he => ?_⟩
    obtain ⟨⟨sl5, os5⟩, f2, f3, f4, c, S6, f5, f6, f7, f8⟩ := e10 e he
    cases f4
    subst f7 f6
    exact ⟨sl5, f2, f3, f5, fun hb => (f8 hb).eq⟩
  refine ⟨_, _, ?_, q⟩
  unfold gLc2
  rw [e1]
  simp only [Option.bind_some, ht, line_eq, if_pos l, backS_same e']
/-- loops over typed items -/
theorem eo_loopX {α : Type} {S : Sx} {Z : Out → Prop} {gg : D → Sx → Option Sx} {body : Sx → Option Out} {xs : List α} {enc : α → D} (I : Nat → Sx → Prop) (h0 : I 0 S) (hs : ∀ i x S, xs[i]? = some x → I i S → Es (gg (enc x) S) fun S1 => Eo (body S1) fun o => ∃ S2, o = .nx S2 ∧ I (i + 1) S2) (hz : ∀ S', I xs.length S' → Z (.nx S')) : Eo (gLoop gg body (xs.map enc) S) Z := by
  refine eo_loop I h0 (fun i d S hd hI => ?_) fun S' h => hz S' (by simpa using h)
  rw [List.getElem?_map] at hd
  obtain ⟨x, hx, rfl⟩ := Option.map_eq_some_iff.mp hd
  exact hs i x S hx hI
/-- .. that may end within: J tells of what ends it -/
theorem loop_end {gg : D → Sx → Option Sx} {body : Sx → Option Out} {Z : Out → Prop} (I : Nat → Sx → Prop) : ∀ (ds : List D) (n : Nat) (S : Sx), I n S → (∀ i d S, ds[i]? = some d → I (n + i) S → Es (gg d S) fun S1 => Eo (body S1) fun o => (∃ S2, (o = .nx S2 ∨ o = .ct S2) ∧ I (n + i + 1) S2) ∨ (∃ S2, o = .bk S2 ∧ Z (.nx S2)) ∨ (∃ d S2, o = .rt d S2 ∧ Z (.rt d S2)) ∨ (∃ j S2, o = .ro j S2 ∧ Z (.ro j S2))) →
    (∀ S', I (n + ds.length) S' → Z (.nx S')) → Eo (gLoop gg body ds S) Z
  | [], n, S, h0, _, hz => ⟨_, rfl, hz S h0⟩
  | d :: ds, n, S, h0, hs, hz => by
    obtain ⟨S1, h1, o, h2, h3⟩ := hs 0 d S rfl h0
    have go : ∀ S2, I (n + 0 + 1) S2 → Eo (gLoop gg body ds S2) Z := fun S2 hI => loop_end I ds (n + 1) S2 hI (fun i e T he hI => by
      have := hs (i + 1) e T (by simpa using he) (by rwa [show n + (i + 1) = n + 1 + i by omega])
      rwa [show n + (i + 1) + 1 = n + 1 + i + 1 by omega] at this) fun S' h => hz S' (by rwa [show n + (d :: ds).length = n + 1 + ds.length by simp; omega])
    rcases h3 with ⟨S2, e, hI⟩ | ⟨S2, rfl, hZ⟩ | ⟨x, S2, rfl, hZ⟩ | ⟨j, S2, rfl, hZ⟩
    · obtain ⟨o2, h4, q⟩ := go S2 hI
      refine ⟨o2, ?_, q⟩
      rw [gLoop]
      rcases e with rfl | rfl <;> simp only [h1, h2, Option.bind_some, h4]
    · exact ⟨_, by rw [gLoop]; simp only [h1, h2, Option.bind_some], hZ⟩
    · exact ⟨_, by rw [gLoop]; simp only [h1, h2, Option.bind_some], hZ⟩
    · exact ⟨_, by rw [gLoop]; simp only [h1, h2, Option.bind_some], hZ⟩
theorem eo_loopE {α : Type} {S : Sx} {Z : Out → Prop} {gg : D → Sx → Option Sx} {body : Sx → Option Out} {xs : List α} {enc : α → D} (I : Nat → Sx → Prop) (h0 : I 0 S) (hs : ∀ i x S, xs[i]? = some x → I i S → Es (gg (enc x) S) fun S1 => Eo (body S1) fun o => (∃ S2, (o = .nx S2 ∨ o = .ct S2) ∧ I (i + 1) S2) ∨ (∃ S2, o = .bk S2 ∧ Z (.nx S2)) ∨ (∃ d S2, o = .rt d S2 ∧ Z (.rt d S2)) ∨ (∃ j S2, o = .ro j S2 ∧ Z (.ro j S2)))
    (hz : ∀ S', I xs.length S' → Z (.nx S')) : Eo (gLoop gg body (xs.map enc) S) Z := by
  refine loop_end I _ 0 S h0 (fun i d S hd hI => ?_) fun S' h => hz S' (by simpa using h)
  rw [List.getElem?_map] at hd
  obtain ⟨x, hx, rfl⟩ := Option.map_eq_some_iff.mp hd
  rw [Nat.zero_add] at hI ⊢
  exact hs i x S hx hI
theorem rng0 (n : Nat) : rng 0 n = (List.range n).map fun i : Nat => .int (i : Int) := by
  unfold rng; simp

/-! ### lists or tuples -/
def seqOf : D → Option (List D)
  | .list xs => some xs
  | .tuple xs => some xs
  | _ => none
def Sq (d : D) (xs : List D) : Prop := d = .list xs ∨ d = .tuple xs
theorem sq_l (xs : List D) : Sq (.list xs) xs := .inl rfl
theorem sq_t (xs : List D) : Sq (.tuple xs) xs := .inr rfl
theorem sq_of {d : D} {xs : List D} (h : seqOf d = some xs) : Sq d xs := by
  cases d <;> simp [seqOf] at h
  · exact .inl (by rw [h])
  · exact .inr (by rw [h])
theorem Sq.of {d : D} {xs : List D} (h : Sq d xs) : seqOf d = some xs := by rcases h with rfl | rfl <;> rfl
theorem isi_seq (d : D) : (isT "list" d || isT "tuple" d) = (seqOf d).isSome := by cases d <;> rfl
section
variable {Q : D → Prop} {d x : D} {xs : List D} {i : Int}
theorem ed_ixQ (s : Sq d xs) (h0 : 0 ≤ i) (e : xs[i.toNat]? = some x) (h : Q x) : Ed (dIx d (.int i)) Q := by
  rcases s with rfl | rfl
  · exact ed_ixL h0 e h
  · exact ed_ixT h0 e h
theorem ed_lenQ (s : Sq d xs) (h : Q (.int xs.length)) : Ed (dLen [d]) Q := by rcases s with rfl | rfl <;> exact ⟨_, rfl, h⟩
theorem ed_itQ {Q : List D → Prop} (s : Sq d xs) (h : Q xs) : Ed (itemsOf d) Q := by rcases s with rfl | rfl <;> exact ⟨_, rfl, h⟩
theorem ed_tupQ (s : Sq d xs) (h : Q (.tuple xs)) : Ed (dTuple [d]) Q := by rcases s with rfl | rfl <;> exact ⟨_, rfl, h⟩
end
theorem all_mapX {α : Type} (f : α → Bool) (xs : List α) {Q : D → Prop} (h : Q (.bool (xs.all f))) : Ed (dAll [.list (xs.map fun a => .bool (f a))]) Q := ⟨_, all_map f xs, h⟩
theorem ed_sumI {ns : List Int} {Q : D → Prop} (h : Q (.int ns.sum)) : Ed (dSum [.list (ns.map .int)]) Q := ⟨_, by simp only [dSum, allInts_of]; rfl, h⟩
/-! ### looks -/
theorem sealS_none (os : List (Option Cell)) : sealS os none = none := rfl
theorem sealS_dat (os : List (Option Cell)) (d : D) : sealS os (some (.dat d)) = some (.dat d) := rfl
theorem sealS_scr (os : List (Option Cell)) (d : List Int) : sealS os (some (.scr d)) = some (.scr d) := rfl
def sealC (os : List (Option Cell)) : Option (Option Cell) → Option R
  | some (some (.lst ds)) => some (.dat (.list ds))
  | some (some (.lR rs)) => ((mapO (snapR os 7) rs).map .list).map .dat
  | _ => none
theorem sealS_own (os : List (Option Cell)) (j : Nat) : sealS os (some (.own j)) = sealC os os[j]? := by
  simp only [sealS, snapR]
  generalize os[j]? = c
  rcases c with _ | _ | c
  · rfl
  · rfl
  · cases c <;> rfl
theorem sealC_lst (os : List (Option Cell)) (ds : List D) : sealC os (some (some (.lst ds))) = some (.dat (.list ds)) := rfl
theorem sealAll_mk {sl sl' : List (Option R)} {os os' : List (Option Cell)} (h : sl.map (sealS os) = sl') (h2 : os.map (fun _ => none) = os') : sealAll ⟨sl, os⟩ = ⟨sl', os'⟩ := by unfold sealAll; rw [h, h2]
end Fu

set_option maxHeartbeats 4000000
namespace Lw
open PySem Fu
local macro_rules | `(tactic| walk_at "e1") => `(tactic| first
  | with_reducible refine eo_seq ?_ | (with_reducible refine then_nx' ?_; refine ⟨?_, ?_, ?_⟩; rotate_left; · (try dsimp only [List.set, List.length_cons, List.length_nil, List.cons_append, List.nil_append, Nat.zero_add, Nat.reduceAdd]); exact rfl) | with_reducible refine then_rt ?_ | with_reducible refine eo_if ?_ | with_reducible refine eo_ret ?_ | with_reducible refine eo_set ?_ | with_reducible refine eo_asg ?_ | with_reducible refine eo_drop ?_ | with_reducible refine eo_nx ?_ | with_reducible refine eo_par ?_ | with_reducible refine eo_own ?_ | with_reducible refine eo_retN ?_ | with_reducible refine eo_for ?_ | with_reducible refine eo_retO ?_
  | with_reducible refine ev_c ?_ | (with_reducible refine ev_var ?_; refine ⟨_, rfl, ?_⟩) | with_reducible refine ev_bin ?_ | with_reducible refine ev_un ?_ | with_reducible refine ev_nil ?_ | with_reducible refine ev_cons ?_
  | with_reducible refine ev_tup ?_ | with_reducible refine ev_lst ?_ | with_reducible refine ev_call ?_ | with_reducible refine ev_callF ?_ | with_reducible refine ev_isi ?_ | with_reducible refine ev_isi2 ?_ | with_reducible refine ev_andV ?_ | with_reducible refine ev_orV ?_ | with_reducible refine ev_notV ?_
  | with_reducible refine ev_B ?_ | with_reducible refine ev_and ?_ | with_reducible refine ev_or ?_ | with_reducible refine ev_not ?_ | with_reducible refine ev_yes ?_ | with_reducible refine ev_if ?_ | with_reducible refine ev_no ?_ | with_reducible refine ev_so ?_ | with_reducible refine ev_sl ?_ | with_reducible refine ev_items ?_
  | (with_reducible refine ev_ixO ?_; refine ⟨_, _, rfl, rfl, ?_⟩) | (with_reducible refine ev_varO ?_; refine ⟨_, _, rfl, rfl, ?_⟩) | (with_reducible refine ev_lenO ?_; refine ⟨_, _, rfl, rfl, ?_⟩) | (with_reducible refine ev_scrSl ?_; refine ⟨_, rfl, ?_⟩) | (with_reducible refine ev_scrLen ?_; refine ⟨_, rfl, ?_⟩) | (with_reducible refine ev_callScr ?_; refine ⟨_, rfl, ?_⟩) | (with_reducible refine ev_OL ?_; refine ⟨_, _, rfl, rfl, ?_⟩) | with_reducible refine ev_OR ?_ | with_reducible refine ev_rep ?_ | with_reducible refine ev_listRng1 ?_ | with_reducible refine eo_setO ?_
  | with_reducible refine es_name ?_ | with_reducible refine es_tup2 ?_ | with_reducible refine es_tup3 ?_
  | with_reducible refine ed_addI ?_ | with_reducible refine ed_subI ?_ | with_reducible refine ed_cmp ?_ | with_reducible refine ed_eqI ?_ | with_reducible refine ed_neI ?_ | with_reducible refine ed_slT ?_ | with_reducible refine ed_slL ?_ | with_reducible refine ed_lenT ?_ | with_reducible refine ed_lenL ?_ | with_reducible refine ed_lenS ?_ | with_reducible refine ed_inS ?_ | with_reducible refine ed_itT ?_ | with_reducible refine ed_itL ?_ | with_reducible refine ed_tupL ?_ | with_reducible refine ed_tupT ?_ | with_reducible refine ed_listL ?_ | with_reducible refine ed_listT ?_ | with_reducible refine ed_neg ?_ | with_reducible refine ed_max ?_ | with_reducible refine ed_min ?_ | with_reducible refine ed_intB ?_
  | with_reducible refine ev_rng1 ?_ | with_reducible refine ev_rng2 ?_)
local macro_rules | `(tactic| walk_at "sd") => `(tactic| first | rfl | assumption | (simp only [decide_eq_true_eq, decide_eq_false_iff_not, Bool.not_eq_true', Bool.not_eq_false', Bool.and_eq_true, Bool.or_eq_true, List.length_map, List.length_cons, List.length_nil, List.length_append, List.length_range] at *; omega))
local macro_rules | `(tactic| walk_at "e2") => `(tactic| first
  | walk_at "e1" | with_reducible refine ⟨_, rfl, ?_⟩ | with_reducible refine ⟨_, _, rfl, ?_⟩
  | with_reducible refine And.intro (Eq.refl (List.length _)) ?_ | with_reducible refine And.intro (Nat.le_of_ble_eq_true (n := List.length _) rfl) ?_
  | with_reducible refine And.intro (Eq.refl (_ : Sx)) (?_ : Ed _ _)
  | ((with_reducible refine And.intro ?_ (And.intro ?_ (?_ : Ev _ _))); (· rfl); (· rfl))
  | ((with_reducible refine ed_ixT ?_ ?_ ?_); (· decide); (· rfl)) | ((with_reducible refine ed_ixL ?_ ?_ ?_); (· decide); (· rfl)) | ((with_reducible refine ed_at ?_ ?_ ?_); (· decide); (· rfl))
  | ((with_reducible refine ed_modI ?_ ?_); (· first | decide | omega))
  | with_reducible exact gives_nx | ((with_reducible refine gives_rt ?_); (· rfl)) | ((with_reducible refine And.intro ?_ ?_); (· exact rfl); (· with_reducible exact Eq.refl (_ : Sx))))
local macro_rules | `(tactic| walk_at "e") => `(tactic| repeat walk_at "e2")
/-- begin a def's spec -/
local macro_rules | `(tactic| walk_at "i") => `(tactic| simp only [initS, List.map_cons, List.map_nil, List.length_cons, List.length_nil, Nat.reduceAdd, Nat.reduceSub, List.replicate, List.cons_append, List.nil_append])
/-- a known truth decides -/
local macro_rules | `(tactic| walk_at "t") => `(tactic| first | ((with_reducible refine split_t ?_ ?_); (· walk_at "sd")) | ((with_reducible refine split_t' ?_ ?_); (· walk_at "sd")))
local macro_rules | `(tactic| walk_at "f") => `(tactic| first | ((with_reducible refine split_f ?_ ?_); (· walk_at "sd")) | ((with_reducible refine split_f' ?_ ?_); (· walk_at "sd")))
/-- all that is seen in a look -/
local macro_rules | `(tactic| walk_at "v") => `(tactic| (rw [sealAll_mk (by (simp only [List.set_cons_zero, List.set_cons_succ, List.map_cons, List.map_nil, sealS_none, sealS_dat, sealS_scr, sealS_own, List.getElem?_cons_zero, List.getElem?_cons_succ, sealC_lst]; rfl)) (by (simp only [List.set_cons_zero, List.set_cons_succ, List.map_cons, List.map_nil]; rfl))]))

section
/-! ### whole numbers, rows, companies, lines, ends: of anything -/
def wholeD : D → Bool
  | .int i => decide (0 ≤ i)
  | _ => false
def rowD (n : Nat) (d : D) : Bool := match seqOf d with
  | some xs => decide (xs.length = n)
  | none => false
def Let (c : Nat) : Prop := 97 ≤ c ∧ c ≤ 122
instance (c : Nat) : Decidable (Let c) := inferInstanceAs (Decidable (_ ∧ _))
theorem Let.ok {c : Nat} (h : Let c) : c < 0x110000 := by have := h.2; omega
def companyD : D → Bool
  | .str x => match x.cps.toList with
    | [c] => decide (Let c)
    | _ => false
  | _ => false
def atD (d : D) (i : Nat) : D := ((seqOf d).getD []).getD i .none
def endD (n : Nat) (d : D) : Bool := match seqOf d with
  | some [.int a, .int s] => decide (0 ≤ a) && decide (0 ≤ s) && decide (a < n) && decide (s < 2)
  | _ => false
theorem company_of {d : D} (h : companyD d = true) : ∃ c, d = ch c ∧ Let c := by
  unfold companyD at h
  split at h
  · split at h
    · rename_i x c e
      refine ⟨c, ?_, of_decide_eq_true h⟩
      unfold ch
      congr 1
      exact congrArg Str.mk (Array.toList_inj.mp (by simpa using e))
    · cases h
  · cases h
theorem x_is_whole (d : D) : m_is_whole [d] = some (.bool (wholeD d)) := by
  unfold m_is_whole; refine mF_of ?_; walk_at "i"; unfold g_is_whole
  walk_at "e"
  refine ⟨fun h1 => ?_, fun h1 => ?_⟩
  · walk_at "e"
    refine ⟨fun h2 => ?_, fun h2 => ?_⟩
    · cases d <;> simp [isT, dTy] at h1 h2
      walk_at "e"
    · cases d <;> simp [isT, dTy] at h1 h2
      walk_at "e"
  · cases d <;> simp [isT, dTy] at h1 <;> walk_at "e"
theorem x_is_row (d : D) (n : Nat) : m_is_row [d, .int n] = some (.bool (rowD n d)) := by
  unfold m_is_row; refine mF_of ?_; walk_at "i"; unfold g_is_row
  walk_at "e"
  rw [isi_seq]
  refine ⟨fun h1 => ?_, fun h1 => ?_⟩
  · obtain ⟨xs, hx⟩ := Option.isSome_iff_exists.mp h1
    walk_at "e"
    refine ed_lenQ (sq_of hx) ?_
    walk_at "e"
    unfold rowD
    rw [gives_rtI, hx]
    simp only [PyData.bool.injEq, decide_eq_decide]
    omega
  · have hx : seqOf d = none := by simpa using h1
    rw [gives_rtI]
    unfold rowD; rw [hx]
theorem letters : ("abcdefghijklmnopqrstuvwxyz" : Str).cps.toList = (List.range 26).map (97 + ·) := by decide +kernel
theorem row_of {n : Nat} {d : D} (h : rowD n d = true) : ∃ xs, Sq d xs ∧ xs.length = n := by
  unfold rowD at h
  split at h
  · rename_i xs e; exact ⟨xs, sq_of e, of_decide_eq_true h⟩
  · cases h
theorem sq_at {d : D} {xs : List D} (s : Sq d xs) (i : Nat) : atD d i = xs.getD i .none := by unfold atD; rw [s.of]; rfl
def placeD (p : Int) (d : D) : Bool := match d with | .int a => decide (0 ≤ a) && decide (a < p) | _ => false
theorem filter_tt {α : Type} (l : List α) : l.filter (fun _ => true) = l := List.filter_eq_self.mpr fun _ _ => rfl
/-! ### webs -/
abbrev Ln := Int × Int × Nat
def ln (l : Ln) : D := .tuple [.int l.1, .int l.2.1, ch l.2.2]
def wb (p : Int) (ls : List Ln) : D := .tuple [.int p, .tuple (ls.map ln)]
structure LnOk (p : Int) (l : Ln) : Prop where
  a0 : 0 ≤ l.1
  a1 : l.1 < p
  b0 : 0 ≤ l.2.1
  b1 : l.2.1 < p
  c : Let l.2.2
structure WbOk (p : Int) (ls : List Ln) : Prop where
  p0 : 0 ≤ p
  all : ∀ l ∈ ls, LnOk p l
  len : ls.length ≤ 1000000
def IsLn (d : D) (l : Ln) : Prop := Sq d [.int l.1, .int l.2.1, ch l.2.2]
def Lns (d : D) (ls : List Ln) : Prop := ∃ ps : List (D × Ln), Sq d (ps.map (·.1)) ∧ ls = ps.map (·.2) ∧ ∀ q ∈ ps, IsLn q.1 q.2
def Web (d : D) (p : Int) (ls : List Ln) : Prop := ∃ L, Sq d [.int p, L] ∧ Lns L ls
theorem ln_inj {k l : Ln} (h : ln k = ln l) : k = l := by
  unfold ln at h
  obtain ⟨a, b, c⟩ := k
  obtain ⟨d, e, f⟩ := l
  simp only [PyData.tuple.injEq, List.cons.injEq, PyData.int.injEq, and_true] at h
  obtain ⟨rfl, rfl, h⟩ := h
  rw [ch_inj h]
theorem line_at {d : D} {ls : List Ln} (h : Lns d ls) {i : Nat} {l : Ln} (hl : ls[i]? = some l) : ∃ xs x, Sq d xs ∧ xs.length = ls.length ∧ xs[i]? = some x ∧ IsLn x l := by
  obtain ⟨ps, s, rfl, hp⟩ := h
  rw [List.getElem?_map] at hl
  obtain ⟨q, hq, rfl⟩ := Option.map_eq_some_iff.mp hl
  exact ⟨_, q.1, s, by simp, by rw [List.getElem?_map, hq]; rfl, hp q (List.mem_of_getElem? hq)⟩
theorem lns_len {d : D} {ls : List Ln} (h : Lns d ls) : ∃ xs, Sq d xs ∧ xs.length = ls.length := by
  obtain ⟨ps, s, rfl, hp⟩ := h
  exact ⟨_, s, by simp⟩
theorem x_need_place {w : D} {p : Int} {ls : List Ln} {i : Int} (hw : Web w p ls) (h0 : 0 ≤ i) (h1 : i < p) : m_need_place [w, .int i] = some .none := by
  obtain ⟨L, s, hL⟩ := hw
  unfold m_need_place; refine mF_of ?_; walk_at "i"; unfold g_need_place
  walk_at "e"
  refine Ed.of (x_is_whole _) ?_
  walk_at "e"
  refine split_f' (by simp [wholeD, h0]) ?_
  walk_at "e"
  refine ed_ixQ s (by decide) rfl ?_
  walk_at "e"
  refine split_f (by simpa using h1) ?_
  walk_at "e"
/-! ### ends -/
def en (e : Int × Int) : D := .tuple [.int e.1, .int e.2]
def IsEn (d : D) (e : Int × Int) : Prop := Sq d [.int e.1, .int e.2]
theorem isEn_en (e : Int × Int) : IsEn (en e) e := sq_t _
def EndOk (n : Nat) (e : Int × Int) : Prop := 0 ≤ e.1 ∧ e.1 < n ∧ 0 ≤ e.2 ∧ e.2 < 2
instance (n : Nat) (e : Int × Int) : Decidable (EndOk n e) := by unfold EndOk; infer_instance
theorem isEn_of {n : Nat} {d : D} (h : endD n d = true) : ∃ e, IsEn d e ∧ EndOk n e := by
  unfold endD at h
  split at h
  · rename_i a s e
    have h1 := h
    simp only [Bool.and_eq_true, decide_eq_true_eq] at h1
    exact ⟨(a, s), sq_of e, h1.1.1.1, h1.1.2, h1.1.1.2, h1.2⟩
  · cases h
theorem x_is_end {w : D} {p : Int} {ls : List Ln} (hw : Web w p ls) (d : D) : m_is_end [w, d] = some (.bool (endD ls.length d)) := by
  obtain ⟨L, s, hL⟩ := hw
  obtain ⟨xs, sx, hl⟩ := lns_len hL
  unfold m_is_end; refine mF_of ?_; walk_at "i"; unfold g_is_end
  walk_at "e"
  refine Ed.of (x_is_row d 2) ?_
  walk_at "e"
  refine ⟨fun h1 => ?_, fun h1 => ?_⟩
  rotate_left
  · walk_at "t"
    walk_at "e"
    have h1 : rowD 2 d = false := by simpa using h1
    have : endD ls.length d = false := by
      unfold endD; unfold rowD at h1
      split
      · rename_i e; rw [e] at h1; simp at h1
      · rfl
    simp [this]
  have h1 : rowD 2 d = true := by simpa using h1
  obtain ⟨zs, sz, hz⟩ := row_of h1
  obtain ⟨a, b, rfl⟩ : ∃ a b, zs = [a, b] := by
    match zs, hz with
    | [a, b], _ => exact ⟨a, b, rfl⟩
  have el : endD ls.length d = (wholeD a && wholeD b && (match a, b with | .int a, .int b => decide (a < ls.length) && decide (b < 2) | _, _ => false)) := by
    unfold endD; rw [sz.of]
    cases a <;> cases b <;> simp [wholeD, Bool.and_assoc]
  rw [el]
  walk_at "e"
  refine ed_ixQ sz (by decide) rfl ?_
  walk_at "e"
  refine Ed.of (x_is_whole _) ?_
  walk_at "e"
  refine ⟨fun h2 => ?_, fun h2 => ?_⟩
  rotate_left
  · walk_at "t"
    walk_at "e"
    have h2 : wholeD a = false := by simpa using h2
    simp [h2]
  have h2 : wholeD a = true := by simpa using h2
  walk_at "e"
  refine ed_ixQ sz (by decide) rfl ?_
  walk_at "e"
  refine Ed.of (x_is_whole _) ?_
  walk_at "e"
  refine ⟨fun h3 => ?_, fun h3 => ?_⟩
  · walk_at "e"
    have h3 : wholeD b = false := by simpa using h3
    simp [h2, h3]
  have h3 : wholeD b = true := by simpa using h3
  cases a <;> simp [wholeD] at h2
  cases b <;> simp [wholeD] at h3
  walk_at "e"
  refine ed_ixQ sz (by decide) rfl ?_
  walk_at "e"
  refine ed_ixQ s (by decide) rfl ?_
  walk_at "e"
  refine ed_lenQ sx ?_
  walk_at "e"
  rw [hl]
  refine ⟨fun h4 => ?_, fun h4 => ?_⟩
  · walk_at "e"
    refine ed_ixQ sz (by decide) rfl ?_
    walk_at "e"
    simp [wholeD, h2, h3, h4]
  · walk_at "e"
    simp [h4]
def sideOf (s : Int) (l : Ln) : Int := if s = 0 then l.1 else l.2.1
def plc (ls : List Ln) (e : Int × Int) : Int := match ls[e.1.toNat]? with
  | some l => sideOf e.2 l
  | none => 0
def cmpy (ls : List Ln) (e : Int × Int) : Nat := match ls[e.1.toNat]? with
  | some l => l.2.2
  | none => 0
def far (e : Int × Int) : Int × Int := (e.1, 1 - e.2)
theorem end_line {n : Nat} {ls : List Ln} {e : Int × Int} (hn : n = ls.length) (h : EndOk n e) : ∃ l, ls[e.1.toNat]? = some l ∧ l ∈ ls := by
  have hl : e.1.toNat < ls.length := by have := h.1; have := h.2.1; omega
  exact ⟨_, List.getElem?_eq_getElem hl, List.getElem_mem hl⟩
theorem x_place_of {w : D} {p : Int} {ls : List Ln} {d : D} {e : Int × Int} (hw : Web w p ls) (s : IsEn d e) (h : EndOk ls.length e) : m_place_of [w, d] = some (.int (plc ls e)) := by
  obtain ⟨L, sw, hL⟩ := hw
  obtain ⟨l, hl, _⟩ := end_line rfl h
  obtain ⟨xs, x, sx, hxl, hx, hln⟩ := line_at hL hl
  unfold m_place_of; refine mF_of ?_; walk_at "i"; unfold g_place_of
  walk_at "e"
  refine ed_ixQ sw (by decide) rfl ?_
  walk_at "e"
  refine ed_ixQ s (by decide) rfl ?_
  walk_at "e"
  refine ed_ixQ sx h.1 hx ?_
  walk_at "e"
  refine ed_ixQ s (by decide) rfl ?_
  walk_at "e"
  have h2 : e.2 = 0 ∨ e.2 = 1 := by have := h.2.2.1; have := h.2.2.2; omega
  unfold plc; rw [hl]
  rcases h2 with h2 | h2 <;> rw [h2] <;> exact ed_ixQ hln (by decide) rfl rfl
theorem x_company_of {w : D} {p : Int} {ls : List Ln} {d : D} {e : Int × Int} (hw : Web w p ls) (s : IsEn d e) (h : EndOk ls.length e) : m_company_of [w, d] = some (ch (cmpy ls e)) := by
  obtain ⟨L, sw, hL⟩ := hw
  obtain ⟨l, hl, _⟩ := end_line rfl h
  obtain ⟨xs, x, sx, hxl, hx, hln⟩ := line_at hL hl
  unfold m_company_of; refine mF_of ?_; walk_at "i"; unfold g_company_of
  walk_at "e"
  refine ed_ixQ sw (by decide) rfl ?_
  walk_at "e"
  refine ed_ixQ s (by decide) rfl ?_
  walk_at "e"
  refine ed_ixQ sx h.1 hx ?_
  walk_at "e"
  refine ed_ixQ hln (by decide) rfl ?_
  unfold cmpy; rw [hl]; rfl
theorem cmpy_let {p : Int} {ls : List Ln} {e : Int × Int} (h : WbOk p ls) (k : EndOk ls.length e) : Let (cmpy ls e) := by
  obtain ⟨l, hl, hm⟩ := end_line rfl k
  unfold cmpy; rw [hl]
  exact (h.all _ hm).c
theorem cmpy_ok {p : Int} {ls : List Ln} {e : Int × Int} (h : WbOk p ls) (k : EndOk ls.length e) : cmpy ls e < 0x110000 := (cmpy_let h k).ok
/-! ### all ends, the ends at a place -/
def allE (n : Nat) : List (Int × Int) := (List.range n).flatMap fun i : Nat => [((i : Int), 0), ((i : Int), 1)]
theorem allE_len (n : Nat) : (allE n).length = 2 * n := by
  unfold allE
  rw [List.length_flatMap]
  induction n with
  | zero => rfl
  | succ n ih => 
    rw [List.range_succ, List.map_append, List.sum_append, ih]
    simp
    omega
theorem allE_mem {n : Nat} {e : Int × Int} : e ∈ allE n ↔ EndOk n e := by
  unfold allE EndOk
  rw [List.mem_flatMap]
  obtain ⟨a, b⟩ := e
  constructor
  · rintro ⟨i, hi, h⟩
    rw [List.mem_range] at hi
    simp only [List.mem_cons, Prod.mk.injEq, List.not_mem_nil, or_false] at h
    rcases h with ⟨rfl, rfl⟩ | ⟨rfl, rfl⟩ <;> simp only <;> omega
  · rintro ⟨h0, h1, h2, h3⟩
    simp only at h0 h1 h2 h3
    refine ⟨a.toNat, List.mem_range.mpr (by omega), ?_⟩
    simp only [List.mem_cons, Prod.mk.injEq, List.not_mem_nil, or_false, Int.toNat_of_nonneg h0, true_and]
    omega
theorem x_all_ends {w : D} {p : Int} {ls : List Ln} (hw : Web w p ls) (h : ls.length ≤ 1000000) : m_all_ends [w] = some (.list ((allE ls.length).map en)) := by
  obtain ⟨L, s, hL⟩ := hw
  obtain ⟨xs, sx, hl⟩ := lns_len hL
  unfold m_all_ends; refine mF_of ?_; walk_at "i"; unfold g_all_ends
  walk_at "e"
  refine ev_lc2X (xs := List.range ls.length) (enc := fun i => .int (i : Int)) (b := fun _ => true) (es := fun _ => [(0 : Int), 1]) (enc1 := fun _ s => .int s) (b1 := fun _ _ => true) (f := fun i s => en ((i : Int), s)) (by decide) ?_
  walk_at "e"
  refine ed_ixQ s (by decide) rfl ?_
  walk_at "e"
  refine ed_lenQ sx ?_
  walk_at "e"
  refine ⟨by omega, by omega, ?_, fun i hi => ?_, ?_⟩
  · rw [hl, rng0]; rfl
  · walk_at "e"
    refine ⟨rfl, rfl, fun _ => ?_⟩
    walk_at "e"
    refine ⟨by decide, by decide, ⟨rfl, rfl⟩, fun e he => ?_⟩
    walk_at "e"
    refine ⟨rfl, rfl, fun _ => ?_⟩
    walk_at "e"
  · have e : ((List.range ls.length).filter fun _ => true).flatMap (fun i : Nat => (([(0 : Int), 1] : List Int).filter fun _ => true).map fun s => en ((i : Int), s)) = (allE ls.length).map en := by
      simp only [filter_tt]
      unfold allE
      rw [List.map_flatMap]; rfl
    rw [e]
    refine ⟨by rw [List.length_map, allE_len]; omega, ?_⟩
    walk_at "e"
def ends (ls : List Ln) (q : Int) : List (Int × Int) := (allE ls.length).filter fun e => decide (plc ls e = q)
theorem ends_mem {ls : List Ln} {q : Int} {e : Int × Int} : e ∈ ends ls q ↔ EndOk ls.length e ∧ plc ls e = q := by
  unfold ends; rw [List.mem_filter, allE_mem, decide_eq_true_eq]
theorem x_ends_at {w : D} {p q : Int} {ls : List Ln} (hw : Web w p ls) (h : ls.length ≤ 1000000) (q0 : 0 ≤ q) (q1 : q < p) : m_ends_at [w, .int q] = some (.list ((ends ls q).map en)) := by
  unfold m_ends_at; refine mF_of ?_; walk_at "i"; unfold g_ends_at
  walk_at "e"
  refine Ed.of (x_need_place hw q0 q1) ?_
  walk_at "e"
  refine ev_lcX (xs := allE ls.length) (enc := en) (b := fun e => decide (plc ls e = q)) (g := en) ?_
  walk_at "e"
  refine Ed.of (x_all_ends hw h) ?_
  walk_at "e"
  refine ⟨rfl, fun e he => ?_, ?_⟩
  · walk_at "e"
    refine Ed.of (x_place_of hw (isEn_en e) (allE_mem.mp he)) ?_
    walk_at "e"
    refine ⟨rfl, rfl, fun _ => ?_⟩
    walk_at "e"
  · walk_at "e"
end

section
/-! ### rides -/
theorem EndOk.far {n : Nat} {e : Int × Int} (h : EndOk n e) : EndOk n (far e) := by
  obtain ⟨h1, h2, h3, h4⟩ := h
  exact ⟨h1, h2, by show 0 ≤ 1 - e.2; omega, by show 1 - e.2 < 2; omega⟩
def unEn (d : D) : Int × Int := match seqOf d with
  | some [.int a, .int b] => (a, b)
  | _ => (0, 0)
theorem unEn_of {d : D} {e : Int × Int} (s : IsEn d e) : unEn d = e := by unfold unEn; rw [s.of]
end

section
/-! ### groups by companies -/
namespace Gr
open PySem.W (dataLe)
open L2 (Key)
section
variable {α : Type}
def addG : List (Nat × List α) → Nat → α → List (Nat × List α)
  | [], c, e => [(c, [e])]
  | (k, g) :: G, c, e => if k = c then (k, g ++ [e]) :: G else (k, g) :: addG G c e
def posG : List (Nat × List α) → Nat → Option Nat
  | [], _ => none
  | (k, _) :: G, c => if k = c then some 0 else (posG G c).map (· + 1)
theorem addG_none {c : Nat} {e : α} : ∀ {G : List (Nat × List α)}, posG G c = none → addG G c e = G ++ [(c, [e])]
  | [], _ => rfl
  | (k, g) :: G, h => by
    by_cases hk : k = c
    · simp [posG, hk] at h
    · have h' : posG G c = none := by simpa [posG, hk] using h
      simp [addG, hk, addG_none h']
theorem addG_some {c : Nat} {e : α} : ∀ {G : List (Nat × List α)} {i : Nat}, posG G c = some i → ∃ g, G[i]? = some (c, g) ∧ addG G c e = G.set i (c, g ++ [e])
  | [], _, h => by cases h
  | (k, g) :: G, i, h => by
    by_cases hk : k = c
    · simp [posG, hk] at h
      subst h hk
      exact ⟨g, rfl, by simp [addG]⟩
    · obtain ⟨j, hj, rfl⟩ : ∃ j, posG G c = some j ∧ j + 1 = i := by simpa [posG, hk] using h
      obtain ⟨g', h1, h2⟩ := addG_some (e := e) hj
      exact ⟨g', by simpa using h1, by simp [addG, hk, h2]⟩
end
/-! #### the dict and its lists as cells -/
abbrev Es2 := List (Nat × List (Int × Int))
def kvsG : Nat → Es2 → List (Key × R)
  | _, [] => []
  | n, (k, _) :: G => (.inr ⟨#[k]⟩, .own n) :: kvsG (n + 1) G
def cellsG (G : Es2) : List (Option Cell) := some (.dR (kvsG 1 G)) :: G.map fun g => some (.lst (g.2.map en))
theorem kvs_len : ∀ {n : Nat} {G : Es2}, (kvsG n G).length = G.length
  | _, [] => rfl
  | n, (k, _) :: G => by simp [kvsG, kvs_len]
theorem key_eq {a b : Nat} : ((Sum.inr (⟨#[a]⟩ : Str) : Key) = .inr ⟨#[b]⟩) ↔ a = b := by
  constructor
  · intro h
    have h1 := Sum.inr.inj h
    have h2 : (#[a] : Array Nat) = #[b] := congrArg Str.cps h1
    simpa using h2
  · rintro rfl; rfl
theorem valR_kvs {c : Nat} : ∀ {n : Nat} {G : Es2}, valR (kvsG n G) (.inr ⟨#[c]⟩) = (posG G c).map fun i => .own (n + i)
  | _, [] => rfl
  | n, (k, g) :: G => by
    by_cases hk : k = c
    · subst hk
      simp [kvsG, valR, posG]
    · have e1 : valR (kvsG n ((k, g) :: G)) (.inr ⟨#[c]⟩) = valR (kvsG (n + 1) G) (.inr ⟨#[c]⟩) := by
        have : ¬ ((Sum.inr (⟨#[k]⟩ : Str) : Key) = .inr ⟨#[c]⟩) := fun z => hk (key_eq.mp z)
        simp [kvsG, valR, List.find?_cons, this]
      rw [e1, valR_kvs (n := n + 1) (G := G)]
      simp only [posG, hk, if_false, Option.map_map]
      congr 1
      funext i
      show R.own (n + 1 + i) = R.own (n + (i + 1))
      rw [Nat.add_assoc, Nat.add_comm 1 i]
theorem any_kvs {c : Nat} : ∀ {n : Nat} {G : Es2}, posG G c = none → ((kvsG n G).any fun kv => decide (kv.1 = (.inr ⟨#[c]⟩ : Key))) = false
  | _, [], _ => rfl
  | n, (k, g) :: G, h => by
    by_cases hk : k = c
    · simp [posG, hk] at h
    · have h' : posG G c = none := by simpa [posG, hk] using h
      have : ¬ ((Sum.inr (⟨#[k]⟩ : Str) : Key) = .inr ⟨#[c]⟩) := fun z => hk (key_eq.mp z)
      simp only [kvsG, List.any_cons, this, decide_false, Bool.false_or]
      exact any_kvs h'
theorem kvs_snoc {c : Nat} {es : List (Int × Int)} : ∀ {n : Nat} {G : Es2}, kvsG n (G ++ [(c, es)]) = kvsG n G ++ [(.inr ⟨#[c]⟩, .own (n + G.length))]
  | _, [] => rfl
  | n, (k, g) :: G => by
    simp only [List.cons_append, kvsG, kvs_snoc (n := n + 1) (G := G), List.length_cons]
    rw [show n + 1 + G.length = n + (G.length + 1) by omega]
theorem kvs_set {c : Nat} {es : List (Int × Int)} : ∀ {n i : Nat} {G : Es2} {g : List (Int × Int)}, G[i]? = some (c, g) → kvsG n (G.set i (c, es)) = kvsG n G
  | _, _, [], _, h => by simp at h
  | n, 0, (k, g) :: G, _, h => by
    simp at h
    obtain ⟨rfl, _⟩ := h
    rfl
  | n, i + 1, (k, g) :: G, g', h => by
    simp only [List.set_cons_succ, kvsG]
    rw [kvs_set (n := n + 1) (by simpa using h)]
theorem ev_setd {G : Es2} {c : Nat} {e : Int × Int} {sl : List (Option R)} {gk : M D} {Q : D → Sx → Prop} (h2 : sl[2]? = some (some (.own 0))) (h3 : sl[3]? = some (some (.dat (en e)))) (hz : G.length ≤ 1000) (hg : ∀ g ∈ G, g.2.length ≤ 1000)
    (h : Ev (gk ⟨sl, cellsG G⟩) fun d S1 => d = ch c ∧ S1 = ⟨sl, cellsG G⟩) (q : Q .none ⟨sl, cellsG (addG G c e)⟩) : Ev (gSetdApp 2 3 gk ⟨sl, cellsG G⟩) Q := by
  have hk := h.eq
  have e0 : (cellsG G)[0]? = some (some (.dR (kvsG 1 G))) := rfl
  have hzl : (kvsG 1 G).length < sizeLine := by rw [kvs_len]; have : (1000 : Nat) < sizeLine := by decide
                                                omega
  have step : gSetdApp 2 3 gk ⟨sl, cellsG G⟩ = some (.none, ⟨sl, cellsG (addG G c e)⟩) := by
    unfold gSetdApp
    simp only [h2, e0, hk, Option.bind_some, keyOf, ch, h3, if_pos hzl, valR_kvs]
    cases hp : posG G c with
    | none =>
      simp only [Option.map_none]
      rw [addG_none hp]
      have e1 : putR (kvsG 1 G) (.inr ⟨#[c]⟩) (.own (cellsG G).length) = kvsG 1 (G ++ [(c, [e])]) := by
        unfold putR
        rw [any_kvs hp, if_neg (by simp), kvs_snoc]
        simp [cellsG, Nat.add_comm]
      rw [e1]
      congr 2
      unfold cellsG
      simp
    | some i =>
      obtain ⟨g, hi, ha⟩ := addG_some (e := e) hp
      simp only [Option.map_some]
      have hc : Fu.cellOf ⟨sl, cellsG G⟩ (1 + i) = some (g.map en) := by
        unfold Fu.cellOf cellsG
        simp only
        rw [Nat.add_comm 1 i, List.getElem?_cons_succ, List.getElem?_map, hi]
        rfl
      have hlt : (g.map en).length < sizeLine := by
        have := hg (c, g) (List.mem_of_getElem? hi)
        have : (1000 : Nat) < sizeLine := by decide
        rw [List.length_map]
        simp only at *
        omega
      rw [hc]
      simp only [Option.bind_some, if_pos hlt, setCell]
      congr 2
      rw [ha]
      unfold cellsG
      rw [Nat.add_comm 1 i, List.set_cons_succ, kvs_set hi]
      congr 1
      rw [List.map_set]
      simp
  exact ⟨_, _, step, q⟩
def grp (ls : List Ln) (es : List (Int × Int)) : Es2 := es.foldl (fun G e => addG G (cmpy ls e) e) []
end Gr
end

section
namespace Gr
open PySem.W (dataLe)
open L2 (Key)
section
variable {α : Type}
theorem sum_addG {c : Nat} {e : α} : ∀ G : List (Nat × List α), ((addG G c e).map fun g => g.2.length).sum = (G.map fun g => g.2.length).sum + 1
  | [] => rfl
  | (k, g) :: G => by
    unfold addG
    split
    · simp only [List.map_cons, List.sum_cons, List.length_append, List.length_cons, List.length_nil]
      omega
    · simp only [List.map_cons, List.sum_cons, sum_addG G]
      omega
theorem keys_addG {c : Nat} {e : α} : ∀ G : List (Nat × List α), (addG G c e).map (·.1) = if c ∈ G.map (·.1) then G.map (·.1) else G.map (·.1) ++ [c]
  | [] => by simp [addG]
  | (k, g) :: G => by
    unfold addG
    by_cases hk : k = c
    · simp [hk]
    · have hk' : ¬ c = k := fun z => hk z.symm
      simp only [hk, if_false, List.map_cons, keys_addG G, List.mem_cons, hk', false_or]
      split <;> rfl
theorem mem_addG {c : Nat} {e : α} {x : Nat × List α} : ∀ {G : List (Nat × List α)}, (G.map (·.1)).Nodup → x ∈ addG G c e → (x ∈ G ∧ x.1 ≠ c) ∨ (x.1 = c ∧ ((∃ g, (c, g) ∈ G ∧ x.2 = g ++ [e]) ∨ ((∀ y ∈ G, y.1 ≠ c) ∧ x.2 = [e])))
  | [], _, h => by
    simp [addG] at h
    subst h
    exact .inr ⟨rfl, .inr ⟨(fun y hy => by cases hy), rfl⟩⟩
  | (k, g) :: G, nd, h => by
    have nd' := List.nodup_cons.mp (show (k :: G.map (·.1)).Nodup from nd)
    unfold addG at h
    split at h
    · rename_i hk
      rcases List.mem_cons.mp h with z | z
      · subst z hk
        exact .inr ⟨rfl, .inl ⟨g, List.mem_cons_self, rfl⟩⟩
      · refine .inl ⟨List.mem_cons_of_mem _ z, fun y => nd'.1 ?_⟩
        exact List.mem_map.mpr ⟨x, z, y.trans hk.symm⟩
    · rename_i hk
      rcases List.mem_cons.mp h with z | z
      · subst z
        exact .inl ⟨List.mem_cons_self, hk⟩
      · rcases mem_addG (G := G) nd'.2 z with ⟨a, b⟩ | ⟨a, ⟨g', b, b2⟩ | ⟨b, b2⟩⟩
        · exact .inl ⟨List.mem_cons_of_mem _ a, b⟩
        · exact .inr ⟨a, .inl ⟨g', List.mem_cons_of_mem _ b, b2⟩⟩
        · refine .inr ⟨a, .inr ⟨fun y hy => ?_, b2⟩⟩
          rcases List.mem_cons.mp hy with q | q
          · subst q; exact hk
          · exact b y q
structure GrpOk (f : α → Nat) (L : List α) (G : List (Nat × List α)) : Prop where
  nd : (G.map (·.1)).Nodup
  fl : ∀ g ∈ G, g.2 = L.filter (fun e => decide (f e = g.1)) ∧ g.2 ≠ []
  all : ∀ e ∈ L, f e ∈ G.map (·.1)
  sum : (G.map fun g => g.2.length).sum = L.length
theorem GrpOk.step {f : α → Nat} {L : List α} {G : List (Nat × List α)} (h : GrpOk f L G) (e : α) : GrpOk f (L ++ [e]) (addG G (f e) e) where
  nd := by
    rw [keys_addG]
    split
    · exact h.nd
    · rename_i hc
      exact List.nodup_append.mpr ⟨h.nd, by simp, fun a ha b hb => by simp at hb; subst hb; intro z; subst z; exact hc ha⟩
  fl := fun x hx => by
    rw [List.filter_append]
    rcases mem_addG h.nd hx with ⟨a, b⟩ | ⟨a, ⟨g, b, b2⟩ | ⟨b, b2⟩⟩
    · obtain ⟨h1, h2⟩ := h.fl x a
      refine ⟨?_, h2⟩
      have : ¬ f e = x.1 := fun z => b z.symm
      simp [this, ← h1]
    · obtain ⟨h1, h2⟩ := h.fl _ b
      simp only at h1
      refine ⟨?_, by rw [b2]; simp⟩
      rw [b2, a, ← h1]
      simp
    · refine ⟨?_, by rw [b2]; simp⟩
      rw [b2, a]
      have : L.filter (fun e' => decide (f e' = f e)) = [] := by
        rw [List.filter_eq_nil_iff]
        intro e' he' z
        obtain ⟨g, hg, hk⟩ := List.mem_map.mp (h.all e' he')
        exact b g hg (hk.trans (by simpa using z))
      rw [this]
      simp
  all := fun x hx => by
    rw [keys_addG]
    rcases List.mem_append.mp hx with z | z
    · have := h.all x z
      split
      · exact this
      · exact List.mem_append_left _ this
    · simp at z
      subst z
      split
      · assumption
      · simp
  sum := by rw [sum_addG, h.sum]; simp
theorem grpOk_foldl {f : α → Nat} : ∀ {E L : List α} {G : List (Nat × List α)}, GrpOk f L G → GrpOk f (L ++ E) (E.foldl (fun G e => addG G (f e) e) G)
  | [], L, G, h => by simpa using h
  | e :: E, L, G, h => by
    have := grpOk_foldl (E := E) (h.step e)
    simpa using this
theorem grpOk {f : α → Nat} (E : List α) : GrpOk f E (E.foldl (fun G e => addG G (f e) e) []) := by
  have := grpOk_foldl (f := f) (E := E) (L := []) (G := []) ⟨List.nodup_nil, (fun g hg => nomatch hg), (fun e he => nomatch he), rfl⟩
  simpa using this
theorem le_sum {G : List (Nat × List α)} {g : Nat × List α} (h : g ∈ G) : g.2.length ≤ (G.map fun g => g.2.length).sum := by
  induction G with
  | nil => cases h
  | cons x G ih =>
    rcases List.mem_cons.mp h with z | z
    · subst z
      simp only [List.map_cons, List.sum_cons]
      omega
    · have := ih z
      simp only [List.map_cons, List.sum_cons]
      omega
theorem GrpOk.lens {f : α → Nat} {L : List α} {G : List (Nat × List α)} (h : GrpOk f L G) : G.length ≤ L.length ∧ ∀ g ∈ G, g.2.length ≤ L.length := by
  have key : ∀ G' : List (Nat × List α), (∀ g ∈ G', g.2 ≠ []) → G'.length ≤ (G'.map fun g => g.2.length).sum := by
    intro G'
    induction G' with
    | nil => intro _; exact Nat.zero_le _
    | cons x G' ih =>
      intro hne
      have h1 := ih fun g hg => hne g (List.mem_cons_of_mem _ hg)
      have h2 : 0 < x.2.length := List.length_pos_iff.mpr (hne x List.mem_cons_self)
      simp only [List.map_cons, List.sum_cons, List.length_cons]
      omega
  refine ⟨?_, fun g hg => ?_⟩
  · have := key G fun g hg => (h.fl g hg).2
    rw [h.sum] at this
    exact this
  · have := le_sum hg
    rw [h.sum] at this
    exact this
end
/-! #### the def -/
theorem alk_en (e f : Int × Int) : PySem.W.alike (en e) (en f) = true := rfl
theorem alk_ens : ∀ es fs : List (Int × Int), PySem.W.alikeAll (es.map en) (fs.map en) = true
  | [], _ => by simp [PySem.W.alikeAll]
  | _ :: _, [] => by simp [PySem.W.alikeAll]
  | e :: es, f :: fs => by simp only [List.map_cons, PySem.W.alikeAll, alk_en, alk_ens es fs, Bool.and_self]
theorem good_ens (es : List (Int × Int)) : Good 2 (.list (es.map en)) := good_list fun d hd => by
  obtain ⟨e, _, rfl⟩ := List.mem_map.mp hd
  exact good_tup fun x hx => by
    simp only [List.mem_cons, List.not_mem_nil, or_false] at hx
    rcases hx with rfl | rfl <;> exact good_int _
theorem sortOk_keys (gs : List (List (Int × Int))) : sortOk ((gs.map fun g => g.map en).map keyG) = true := by
  have hm : ∀ d ∈ (gs.map fun g => g.map en).map keyG, ∃ g : List (Int × Int), d = .tuple [.int (-(g.map en).length), .list (g.map en)] := fun d hd => by
    obtain ⟨x, hx, rfl⟩ := List.mem_map.mp hd
    obtain ⟨g, _, rfl⟩ := List.mem_map.mp hx
    exact ⟨g, rfl⟩
  unfold sortOk
  simp only [Bool.and_eq_true, Bool.or_eq_true, List.all_eq_true, decide_eq_true_eq]
  refine ⟨⟨fun d hd e he => ?_, .inl fun d hd => ?_⟩, fun d hd => ?_⟩
  · obtain ⟨g, rfl⟩ := hm d hd
    obtain ⟨h, rfl⟩ := hm e he
    simp only [PySem.W.alike, PySem.W.alikeAll, alk_ens, Bool.and_self]
  · obtain ⟨g, rfl⟩ := hm d hd
    rfl
  · obtain ⟨g, rfl⟩ := hm d hd
    have hf := (good_ens g).fine
    have h1 : (PyData.list (g.map en)).canLay0 = true := hf.1
    have h2 : (PyData.list (g.map en)).depth ≤ 2 := hf.2
    refine ⟨?_, ?_⟩
    · simp only [PyData.depth, PyData.depthAll] at h2 ⊢
      omega
    · simp only [PyData.canLay0, PyData.canLayAll0, Bool.true_and, Bool.and_true] at h1 ⊢
      exact h1
theorem grps_cells : ∀ {sl : List (Option R)} {G H : Es2} {n : Nat}, (∀ i g, G[i]? = some g → Fu.cellOf ⟨sl, cellsG H⟩ (n + i) = some (g.2.map en)) → grpsOf ⟨sl, cellsG H⟩ (kvsG n G) = some (G.map fun g => g.2.map en)
  | _, [], _, _, _ => rfl
  | sl, (k, g) :: G, H, n, h => by
    have h0 := h 0 (k, g) rfl
    rw [Nat.add_zero] at h0
    have h1 := grps_cells (sl := sl) (G := G) (H := H) (n := n + 1) fun i x hx => by
      have := h (i + 1) x (by simpa using hx)
      rw [show n + 1 + i = n + (i + 1) by omega]
      exact this
    simp only [kvsG, grpsOf, h0, Option.bind_some, h1, List.map_cons]
theorem ev_sortV {G : Es2} {sl : List (Option R)} {Q : D → Sx → Prop} (h2 : sl[2]? = some (some (.own 0))) (hz : G.length ≤ 1000)
    (q : ∀ gs : List (List (Int × Int)), gs.Perm (G.map (·.2)) → Q (.list (gs.map fun g => .list (g.map en))) (wiped ⟨sl, cellsG G⟩)) : Ev (gSortV 2 ⟨sl, cellsG G⟩) Q := by
  have hg : grpsOf ⟨sl, cellsG G⟩ (kvsG 1 G) = some (G.map fun g => g.2.map en) := grps_cells fun i g hi => by
    unfold Fu.cellOf cellsG
    simp only
    rw [Nat.add_comm 1 i, List.getElem?_cons_succ, List.getElem?_map, hi]
    rfl
  have so : sortOk ((G.map fun g => g.2.map en).map keyG) = true := by
    have := sortOk_keys (G.map (·.2))
    rw [List.map_map] at this ⊢
    rw [List.map_map] at this
    exact this
  have hl : (G.map fun g => g.2.map en).length ≤ sizeLine := by
    rw [List.length_map]
    have : (1000 : Nat) < sizeLine := by decide
    omega
  have e0 : (cellsG G)[0]? = some (some (.dR (kvsG 1 G))) := rfl
  refine ⟨_, _, ?_, q ((G.map (·.2)).mergeSort (fun a b => dataLe false keyG (a.map en) (b.map en))) (List.mergeSort_perm _ _)⟩
  unfold gSortV
  simp only [h2, e0, hg, Option.bind_some, so, true_and, if_pos hl]
  congr 3
  unfold sortG
  have := List.map_mergeSort (s := dataLe false keyG) (r := fun a b : List (Int × Int) => dataLe false keyG (a.map en) (b.map en)) (f := fun g : List (Int × Int) => g.map en) (l := G.map (·.2)) (fun a _ b _ => rfl)
  rw [List.map_map] at this
  rw [show (G.map fun g => g.2.map en) = G.map ((fun g : List (Int × Int) => g.map en) ∘ fun x => x.2) from rfl, ← this, List.map_map]
  rfl
theorem x_by_companies {w : D} {p q : Int} {ls : List Ln} (hw : Web w p ls) (hl : ls.length ≤ 400) (q0 : 0 ≤ q) (q1 : q < p) :
    ∃ gs : List (List (Int × Int)), m_by_companies_N [w, .int q] = some (gs.map fun g => .list (g.map en)) ∧ gs.Perm ((grp ls (ends ls q)).map (·.2)) := by
  have hE : (ends ls q).length ≤ 800 := by
    have : (ends ls q).length ≤ (allE ls.length).length := List.length_filter_le _ _
    rw [allE_len] at this
    omega
  suffices h : Eo (g_by_companies_N ⟨initS 4 [w, .int q], []⟩) fun o => ∃ j S, o = .ro j S ∧ ∃ gs : List (List (Int × Int)), Fu.cellOf S j = some (gs.map fun g => .list (g.map en)) ∧ gs.Perm ((grp ls (ends ls q)).map (·.2)) by
    obtain ⟨o, e, j, S, rfl, gs, h1, h2⟩ := h
    refine ⟨gs, ?_, h2⟩
    unfold m_by_companies_N mN
    rw [e]
    exact h1
  walk_at "i"; unfold g_by_companies_N
  refine eo_seq ⟨_, rfl, ?_⟩
  refine then_nx' ⟨⟨[some (.dat w), some (.dat (.int q)), some (.own 0), none], cellsG []⟩, rfl, ?_⟩
  refine eo_seq ?_
  refine eo_for ?_
  walk_at "e"
  refine Ed.of (x_ends_at hw (by omega) q0 q1) ?_
  walk_at "e"
  refine eo_loopX (xs := ends ls q) (enc := en) (fun i S => ∃ x3, S = ⟨[some (.dat w), some (.dat (.int q)), some (.own 0), x3], cellsG (((ends ls q).take i).foldl (fun G e => addG G (cmpy ls e) e) [])⟩) ⟨none, rfl⟩ ?_ ?_
  · rintro i e S hx ⟨x3, rfl⟩
    have he : e ∈ ends ls q := List.mem_of_getElem? hx
    have ok := grpOk (f := cmpy ls) ((ends ls q).take i)
    have hi : ((ends ls q).take i).length ≤ 800 := by rw [List.length_take]; omega
    obtain ⟨l1, l2⟩ := ok.lens
    walk_at "e"
    refine ev_setd (c := cmpy ls e) (e := e) rfl rfl (Nat.le_trans (Nat.le_trans l1 hi) (by decide)) (fun g hg => Nat.le_trans (Nat.le_trans (l2 g hg) hi) (by decide)) ?_ ?_
    · walk_at "e"
      refine Ed.of (x_company_of hw (isEn_en e) (ends_mem.mp he).1) ?_
      exact ⟨rfl, rfl⟩
    · refine ⟨_, rfl, some (.dat (en e)), ?_⟩
      rw [List.take_add_one, hx]
      simp only [Option.toList_some, List.foldl_append, List.foldl_cons, List.foldl_nil]
      rfl
  · rintro S' ⟨x3, rfl⟩
    rw [List.take_length]
    refine then_nx' ⟨_, rfl, ?_⟩
    refine eo_retO ?_
    have ok := grpOk (f := cmpy ls) (ends ls q)
    have hgl : List.length (grp ls (ends ls q)) ≤ (ends ls q).length := ok.lens.1
    refine ev_sortV (G := grp ls (ends ls q)) rfl (by omega) fun gs hp => ?_
    refine ⟨_, rfl, _, _, rfl, gs, ?_, hp⟩
    unfold Fu.cellOf
    simp
end Gr
end

end Lw

set_option maxHeartbeats 4000000
namespace Lw
open PySem Fu
local macro_rules | `(tactic| walk_at "e1") => `(tactic| first
  | with_reducible refine eo_seq ?_ | (with_reducible refine then_nx' ?_; refine ⟨?_, ?_, ?_⟩; rotate_left; · (try dsimp only [List.set, List.length_cons, List.length_nil, List.cons_append, List.nil_append, Nat.zero_add, Nat.reduceAdd]); exact rfl) | with_reducible refine then_rt ?_ | with_reducible refine eo_if ?_ | with_reducible refine eo_ret ?_ | with_reducible refine eo_set ?_ | with_reducible refine eo_asg ?_ | with_reducible refine eo_drop ?_ | with_reducible refine eo_nx ?_ | with_reducible refine eo_par ?_ | with_reducible refine eo_own ?_ | with_reducible refine eo_retN ?_ | with_reducible refine eo_for ?_ | with_reducible refine eo_retO ?_
  | with_reducible refine ev_c ?_ | (with_reducible refine ev_var ?_; refine ⟨_, rfl, ?_⟩) | with_reducible refine ev_bin ?_ | with_reducible refine ev_un ?_ | with_reducible refine ev_nil ?_ | with_reducible refine ev_cons ?_
  | with_reducible refine ev_tup ?_ | with_reducible refine ev_lst ?_ | with_reducible refine ev_call ?_ | with_reducible refine ev_callF ?_ | with_reducible refine ev_isi ?_ | with_reducible refine ev_isi2 ?_ | with_reducible refine ev_andV ?_ | with_reducible refine ev_orV ?_ | with_reducible refine ev_notV ?_
  | with_reducible refine ev_B ?_ | with_reducible refine ev_and ?_ | with_reducible refine ev_or ?_ | with_reducible refine ev_not ?_ | with_reducible refine ev_yes ?_ | with_reducible refine ev_if ?_ | with_reducible refine ev_no ?_ | with_reducible refine ev_so ?_ | with_reducible refine ev_sl ?_ | with_reducible refine ev_items ?_
  | (with_reducible refine ev_ixO ?_; refine ⟨_, _, rfl, rfl, ?_⟩) | (with_reducible refine ev_varO ?_; refine ⟨_, _, rfl, rfl, ?_⟩) | (with_reducible refine ev_lenO ?_; refine ⟨_, _, rfl, rfl, ?_⟩) | (with_reducible refine ev_scrSl ?_; refine ⟨_, rfl, ?_⟩) | (with_reducible refine ev_scrLen ?_; refine ⟨_, rfl, ?_⟩) | (with_reducible refine ev_callScr ?_; refine ⟨_, rfl, ?_⟩) | (with_reducible refine ev_OL ?_; refine ⟨_, _, rfl, rfl, ?_⟩) | with_reducible refine ev_OR ?_ | with_reducible refine ev_rep ?_ | with_reducible refine ev_listRng1 ?_ | with_reducible refine eo_setO ?_
  | with_reducible refine es_name ?_ | with_reducible refine es_tup2 ?_ | with_reducible refine es_tup3 ?_
  | with_reducible refine ed_addI ?_ | with_reducible refine ed_subI ?_ | with_reducible refine ed_cmp ?_ | with_reducible refine ed_eqI ?_ | with_reducible refine ed_neI ?_ | with_reducible refine ed_slT ?_ | with_reducible refine ed_slL ?_ | with_reducible refine ed_lenT ?_ | with_reducible refine ed_lenL ?_ | with_reducible refine ed_lenS ?_ | with_reducible refine ed_inS ?_ | with_reducible refine ed_itT ?_ | with_reducible refine ed_itL ?_ | with_reducible refine ed_tupL ?_ | with_reducible refine ed_tupT ?_ | with_reducible refine ed_listL ?_ | with_reducible refine ed_listT ?_ | with_reducible refine ed_neg ?_ | with_reducible refine ed_max ?_ | with_reducible refine ed_min ?_ | with_reducible refine ed_intB ?_)
local macro_rules | `(tactic| walk_at "e2") => `(tactic| first
  | walk_at "e1" | with_reducible refine ⟨_, rfl, ?_⟩ | with_reducible refine ⟨_, _, rfl, ?_⟩
  | with_reducible refine And.intro (Eq.refl (List.length _)) ?_ | with_reducible refine And.intro (Nat.le_of_ble_eq_true (n := List.length _) rfl) ?_
  | with_reducible refine And.intro (Eq.refl (_ : Sx)) (?_ : Ed _ _)
  | with_reducible exact gives_nx | with_reducible (refine gives_rt ?_; rfl))
local macro_rules | `(tactic| walk_at "e") => `(tactic| repeat walk_at "e2")
/-- begin a def's spec -/
local macro_rules | `(tactic| walk_at "i") => `(tactic| simp only [initS, List.map_cons, List.map_nil, List.length_cons, List.length_nil, Nat.reduceAdd, Nat.reduceSub, List.replicate, List.cons_append, List.nil_append])

section
namespace Sp
/-! ### the spring -/
structure Reel (b : Nat) (cs : List D) : Prop where
  ex : ∃ (f s n : Int), cs = [.int f, .int s, .int n] ∧ 0 ≤ f ∧ 0 ≤ s ∧ s < 2305843009213693951 ∧ 0 ≤ n ∧ n + b ≤ 18446744073709551616
theorem Reel.mono {a b : Nat} {cs : List D} (h : Reel a cs) (l : b ≤ a) : Reel b cs := by
  obtain ⟨f, s, n, h1, h2, h3, h4, h5, h6⟩ := h
  exact ⟨f, s, n, h1, h2, h3, h4, h5, by omega⟩
theorem log_lt {i : Int} {k : Nat} (h : i.natAbs < 2 ^ (k + 1)) : i.natAbs.log2 ≤ k := by
  by_cases z : i.natAbs = 0
  · rw [z]; simp
  · exact Nat.le_of_lt_succ ((Nat.log2_lt z).mpr h)
theorem mulW {i j : Int} (a : -170141183460469231731687303715884105728 < i ∧ i < 170141183460469231731687303715884105728) (b : -170141183460469231731687303715884105728 < j ∧ j < 170141183460469231731687303715884105728) : L2.CMulW i j := by
  unfold L2.CMulW
  have h1 : i.natAbs.log2 ≤ 126 := log_lt (by show i.natAbs < 170141183460469231731687303715884105728; omega)
  have h2 : j.natAbs.log2 ≤ 126 := log_lt (by show j.natAbs < 170141183460469231731687303715884105728; omega)
  omega
theorem divW {i j : Int} (a : 0 < j ∧ j < 170141183460469231731687303715884105728) : L2.CDivW i j := by
  unfold L2.CDivW
  have h2 : j.natAbs.log2 ≤ 126 := log_lt (by show j.natAbs < 170141183460469231731687303715884105728; omega)
  exact ⟨a.1, by omega⟩
theorem x_draw {b : Nat} {cs : List D} {many : Int} (h : Reel (b + 1) cs) (m0 : 0 < many) (m1 : many ≤ 18446744073709551616) : ∃ d cs', m__law_draw_k15 cs [.int many] = some (d, cs') ∧ ∃ v, d = .int v ∧ 0 ≤ v ∧ v < many ∧ Reel b cs' := by
  obtain ⟨f, s, n, rfl, f0, s0, s1, n0, n1⟩ := h
  unfold m__law_draw_k15; refine mIO_of ?_; walk_at "i"; unfold g__law_draw_k15
  walk_at "e"
  refine ed_at (by decide) rfl ?_
  walk_at "e"
  refine ⟨fun ht => ?_, fun ht => ?_⟩
  · walk_at "e"
    refine ed_at (by decide) rfl ?_
    walk_at "e"
    refine ed_modI m0 ?_
    walk_at "e"
    refine ed_at (by decide) rfl ?_
    walk_at "e"
    refine ed_divI (divW ⟨m0, by omega⟩) ?_
    refine ⟨0, _, rfl, rfl, ?_⟩
    walk_at "e"
    refine ⟨rfl, 0, rfl, by simp, ?_⟩
    walk_at "e"
    exact ⟨_, rfl, _, rfl, Int.emod_nonneg _ (by omega), Int.emod_lt_of_pos _ m0, f / many, s, n, rfl, Int.ediv_nonneg f0 (by omega), s0, s1, n0, by omega⟩
  · walk_at "e"
    refine ed_at (by decide) rfl ?_
    walk_at "e"
    refine ⟨0, _, rfl, rfl, ?_⟩
    walk_at "e"
    refine ⟨rfl, 2, rfl, by simp, ?_⟩
    walk_at "e"
    refine ed_at (by decide) rfl ?_
    walk_at "e"
    refine ed_at (by decide) rfl ?_
    walk_at "e"
    refine ed_mulI (mulW ⟨by omega, by omega⟩ ⟨by omega, by omega⟩) ?_
    walk_at "e"
    refine ed_modI (by decide) ?_
    walk_at "e"
    refine ed_at (by decide) rfl ?_
    walk_at "e"
    refine ed_mulI (mulW ⟨by omega, by omega⟩ ⟨by omega, by omega⟩) ?_
    walk_at "e"
    refine ed_at (by decide) rfl ?_
    walk_at "e"
    refine ed_mulI (mulW ⟨by omega, by omega⟩ ⟨by omega, by omega⟩) ?_
    walk_at "e"
    refine ed_modI (by decide) ?_
    refine ⟨0, _, rfl, rfl, ?_⟩
    walk_at "e"
    refine ⟨rfl, 1, rfl, by simp, ?_⟩
    walk_at "e"
    refine ed_at (by decide) rfl ?_
    walk_at "e"
    refine ed_divI (divW ⟨by decide, by decide⟩) ?_
    walk_at "e"
    refine ed_modI m0 ?_
    exact ⟨_, rfl, _, rfl, Int.emod_nonneg _ (by omega), Int.emod_lt_of_pos _ m0, f, _, n + 1, rfl, f0, Int.emod_nonneg _ (by decide), Int.emod_lt_of_pos _ (by decide), by omega, by omega⟩
end Sp
end

end Lw

set_option maxHeartbeats 4000000
namespace Lw
open PySem Fu
local macro_rules | `(tactic| walk_at "e1") => `(tactic| first
  | with_reducible refine eo_seq ?_ | (with_reducible refine then_nx' ?_; refine ⟨?_, ?_, ?_⟩; rotate_left; · (try dsimp only [List.set, List.length_cons, List.length_nil, List.cons_append, List.nil_append, Nat.zero_add, Nat.reduceAdd]); exact rfl) | with_reducible refine then_rt ?_ | with_reducible refine eo_if ?_ | with_reducible refine eo_ret ?_ | with_reducible refine eo_set ?_ | with_reducible refine eo_asg ?_ | with_reducible refine eo_drop ?_ | with_reducible refine eo_nx ?_ | with_reducible refine eo_par ?_ | with_reducible refine eo_own ?_ | with_reducible refine eo_retN ?_ | with_reducible refine eo_for ?_ | with_reducible refine eo_retO ?_
  | with_reducible refine ev_c ?_ | (with_reducible refine ev_var ?_; refine ⟨_, rfl, ?_⟩) | with_reducible refine ev_bin ?_ | with_reducible refine ev_un ?_ | with_reducible refine ev_nil ?_ | with_reducible refine ev_cons ?_
  | with_reducible refine ev_tup ?_ | with_reducible refine ev_lst ?_ | with_reducible refine ev_call ?_ | with_reducible refine ev_callF ?_ | with_reducible refine ev_isi ?_ | with_reducible refine ev_isi2 ?_ | with_reducible refine ev_andV ?_ | with_reducible refine ev_orV ?_ | with_reducible refine ev_notV ?_
  | with_reducible refine ev_B ?_ | with_reducible refine ev_and ?_ | with_reducible refine ev_or ?_ | with_reducible refine ev_not ?_ | with_reducible refine ev_yes ?_ | with_reducible refine ev_if ?_ | with_reducible refine ev_no ?_ | with_reducible refine ev_so ?_ | with_reducible refine ev_sl ?_ | with_reducible refine ev_items ?_
  | (with_reducible refine ev_ixO ?_; refine ⟨_, _, rfl, rfl, ?_⟩) | (with_reducible refine ev_varO ?_; refine ⟨_, _, rfl, rfl, ?_⟩) | (with_reducible refine ev_lenO ?_; refine ⟨_, _, rfl, rfl, ?_⟩) | (with_reducible refine ev_scrSl ?_; refine ⟨_, rfl, ?_⟩) | (with_reducible refine ev_scrLen ?_; refine ⟨_, rfl, ?_⟩) | (with_reducible refine ev_callScr ?_; refine ⟨_, rfl, ?_⟩) | (with_reducible refine ev_OL ?_; refine ⟨_, _, rfl, rfl, ?_⟩) | with_reducible refine ev_OR ?_ | with_reducible refine ev_rep ?_ | with_reducible refine ev_listRng1 ?_ | with_reducible refine eo_setO ?_
  | with_reducible refine es_name ?_ | with_reducible refine es_tup2 ?_ | with_reducible refine es_tup3 ?_
  | with_reducible refine ed_addI ?_ | with_reducible refine ed_subI ?_ | with_reducible refine ed_cmp ?_ | with_reducible refine ed_eqI ?_ | with_reducible refine ed_neI ?_ | with_reducible refine ed_slT ?_ | with_reducible refine ed_slL ?_ | with_reducible refine ed_lenT ?_ | with_reducible refine ed_lenL ?_ | with_reducible refine ed_lenS ?_ | with_reducible refine ed_inS ?_ | with_reducible refine ed_itT ?_ | with_reducible refine ed_itL ?_ | with_reducible refine ed_tupL ?_ | with_reducible refine ed_tupT ?_ | with_reducible refine ed_listL ?_ | with_reducible refine ed_listT ?_ | with_reducible refine ed_neg ?_ | with_reducible refine ed_max ?_ | with_reducible refine ed_min ?_ | with_reducible refine ed_intB ?_
  | with_reducible refine ev_rng1 ?_ | with_reducible refine ev_rng2 ?_)
local macro_rules | `(tactic| walk_at "sd") => `(tactic| first | rfl | assumption | (simp only [decide_eq_true_eq, decide_eq_false_iff_not, Bool.not_eq_true', Bool.not_eq_false', Bool.and_eq_true, Bool.or_eq_true, List.length_map, List.length_cons, List.length_nil, List.length_append, List.length_range] at *; omega))
local macro_rules | `(tactic| walk_at "e2") => `(tactic| first
  | walk_at "e1" | with_reducible refine ⟨_, rfl, ?_⟩ | with_reducible refine ⟨_, _, rfl, ?_⟩
  | with_reducible refine And.intro (Eq.refl (List.length _)) ?_ | with_reducible refine And.intro (Nat.le_of_ble_eq_true (n := List.length _) rfl) ?_
  | with_reducible refine And.intro (Eq.refl (_ : Sx)) (?_ : Ed _ _)
  | ((with_reducible refine And.intro ?_ (And.intro ?_ (?_ : Ev _ _))); (· rfl); (· rfl))
  | ((with_reducible refine ed_ixT ?_ ?_ ?_); (· decide); (· rfl)) | ((with_reducible refine ed_ixL ?_ ?_ ?_); (· decide); (· rfl)) | ((with_reducible refine ed_at ?_ ?_ ?_); (· decide); (· rfl))
  | ((with_reducible refine ed_modI ?_ ?_); (· first | decide | omega))
  | with_reducible exact gives_nx | ((with_reducible refine gives_rt ?_); (· rfl)) | ((with_reducible refine And.intro ?_ ?_); (· exact rfl); (· with_reducible exact Eq.refl (_ : Sx))))
local macro_rules | `(tactic| walk_at "e") => `(tactic| repeat walk_at "e2")
/-- begin a def's spec -/
local macro_rules | `(tactic| walk_at "i") => `(tactic| simp only [initS, List.map_cons, List.map_nil, List.length_cons, List.length_nil, Nat.reduceAdd, Nat.reduceSub, List.replicate, List.cons_append, List.nil_append])
/-- a known truth decides -/
local macro_rules | `(tactic| walk_at "t") => `(tactic| first | ((with_reducible refine split_t ?_ ?_); (· walk_at "sd")) | ((with_reducible refine split_t' ?_ ?_); (· walk_at "sd")))
local macro_rules | `(tactic| walk_at "f") => `(tactic| first | ((with_reducible refine split_f ?_ ?_); (· walk_at "sd")) | ((with_reducible refine split_f' ?_ ?_); (· walk_at "sd")))
/-- all that is seen in a look -/
local macro_rules | `(tactic| walk_at "v") => `(tactic| (rw [sealAll_mk (by (simp only [List.set_cons_zero, List.set_cons_succ, List.map_cons, List.map_nil, sealS_none, sealS_dat, sealS_scr, sealS_own, List.getElem?_cons_zero, List.getElem?_cons_succ, sealC_lst]; rfl)) (by (simp only [List.set_cons_zero, List.set_cons_succ, List.map_cons, List.map_nil]; rfl))]))

section
namespace Gr
theorem fm_spec (a : Int) : ∀ l : List Int, a ≤ l.foldl max a ∧ (∀ x ∈ l, x ≤ l.foldl max a) ∧ (l.foldl max a = a ∨ l.foldl max a ∈ l) := by
  intro l
  induction l generalizing a with
  | nil => exact ⟨Int.le_refl _, (fun x hx => nomatch hx), .inl rfl⟩
  | cons b l ih =>
    obtain ⟨h1, h2, h3⟩ := ih (max a b)
    refine ⟨Int.le_trans (Int.le_max_left a b) h1, fun x hx => ?_, ?_⟩
    · rcases List.mem_cons.mp hx with z | z
      · subst z; exact Int.le_trans (Int.le_max_right a x) h1
      · exact h2 x z
    · rcases h3 with h3 | h3
      · rw [List.foldl_cons, h3]
        rcases Int.le_total a b with z | z
        · rw [Int.max_eq_right z]; exact .inr List.mem_cons_self
        · rw [Int.max_eq_left z]; exact .inl rfl
      · exact .inr (List.mem_cons_of_mem _ h3)
def wantI (ns : List Int) : Int := (ns.map fun n => 2 * n - ns.sum).foldl max (ns.sum % 2)
def mxc (cs : List Nat) : Int := (cs.map fun c => (cs.count c : Int)).foldl max 0
/-- what a place wants -/
def wntC (cs : List Nat) : Int := max (2 * mxc cs - cs.length) ((cs.length : Int) % 2)
def wnt (ls : List Ln) (q : Int) : Int := wntC ((ends ls q).map (cmpy ls))
theorem sum_cast : ∀ ns : List Nat, (ns.map fun n : Nat => (n : Int)).sum = (ns.sum : Nat)
  | [] => rfl
  | n :: ns => by simp [sum_cast ns]
theorem count_map {α : Type} (f : α → Nat) (k : Nat) : ∀ L : List α, (L.map f).count k = (L.filter fun e => decide (f e = k)).length
  | [] => rfl
  | e :: L => by
    rw [List.map_cons, List.count_cons, count_map f k L, List.filter_cons]
    by_cases h : f e = k <;> simp [h]
theorem want_eq {cs : List Nat} {ns : List Int} (hs : ns.sum = cs.length) (h1 : ∀ s ∈ ns, ∃ c ∈ cs, s = (cs.count c : Int)) (h2 : ∀ c ∈ cs, (cs.count c : Int) ∈ ns) : wantI ns = wntC cs := by
  obtain ⟨a1, a2, a3⟩ := fm_spec (ns.sum % 2) (ns.map fun n => 2 * n - ns.sum)
  obtain ⟨b1, b2, b3⟩ := fm_spec 0 (cs.map fun c => (cs.count c : Int))
  unfold wantI wntC
  unfold mxc
  rw [hs] at a1 a2 a3 ⊢
  have hm : ∀ c ∈ cs, (cs.count c : Int) ≤ (cs.map fun c => (cs.count c : Int)).foldl max 0 := fun c hc => b2 _ (List.mem_map.mpr ⟨c, hc, rfl⟩)
  apply Int.le_antisymm
  · rcases a3 with z | z
    · rw [z]; exact Int.le_max_right _ _
    · obtain ⟨s, hs', e⟩ := List.mem_map.mp z
      obtain ⟨c, hc, rfl⟩ := h1 s hs'
      have := hm c hc
      rw [← e]
      refine Int.le_trans ?_ (Int.le_max_left _ _)
      omega
  · refine Int.max_le.mpr ⟨?_, a1⟩
    rcases b3 with z | z
    · rw [z]
      refine Int.le_trans ?_ a1
      have : 0 ≤ (cs.length : Int) % 2 := Int.emod_nonneg _ (by decide)
      omega
    · obtain ⟨c, hc, e⟩ := List.mem_map.mp z
      have := a2 _ (List.mem_map.mpr ⟨_, h2 c hc, rfl⟩)
      rw [← e]
      exact this
theorem wantI_wnt {ls : List Ln} {q : Int} {gs : List (List (Int × Int))} (hp : gs.Perm ((grp ls (ends ls q)).map (·.2))) : wantI (gs.map fun g => (g.length : Int)) = wnt ls q := by
  have ok := grpOk (f := cmpy ls) (ends ls q)
  refine want_eq ?_ (fun s hs => ?_) fun c hc => ?_
  · have e1 : (gs.map fun g => (g.length : Int)) = (gs.map List.length).map fun n : Nat => (n : Int) := by rw [List.map_map]; rfl
    rw [e1, sum_cast, (hp.map List.length).sum_nat, List.map_map, List.length_map]
    have := ok.sum
    exact congrArg (fun n : Nat => (n : Int)) this
  · obtain ⟨g, hg, rfl⟩ := List.mem_map.mp hs
    obtain ⟨x, hx, rfl⟩ := List.mem_map.mp (hp.mem_iff.mp hg)
    obtain ⟨f1, f2⟩ := ok.fl x hx
    refine ⟨x.1, ?_, ?_⟩
    · obtain ⟨e, he⟩ := List.exists_mem_of_ne_nil _ f2
      rw [f1, List.mem_filter, decide_eq_true_eq] at he
      exact List.mem_map.mpr ⟨e, he.1, he.2⟩
    · rw [count_map, ← f1]
  · obtain ⟨e, he, rfl⟩ := List.mem_map.mp hc
    obtain ⟨x, hx, hk⟩ := List.mem_map.mp (ok.all e he)
    obtain ⟨f1, _⟩ := ok.fl x hx
    refine List.mem_map.mpr ⟨x.2, hp.mem_iff.mpr (List.mem_map.mpr ⟨x, hx, rfl⟩), ?_⟩
    rw [count_map, ← hk, ← f1]
theorem pick_ints (ns : List Int) : pickOk (ns.map .int) = true := by
  unfold pickOk
  simp only [Bool.and_eq_true, List.all_eq_true, decide_eq_true_eq]
  have cl : ∀ ns : List Int, PyData.canLayAll0 (ns.map PyData.int) = true := fun ns => by
    induction ns with
    | nil => rfl
    | cons n ns ih => simp [PyData.canLayAll0, PyData.canLay0, ih]
  refine ⟨⟨⟨fun d hd e he => ?_, fun d hd => ?_⟩, by rw [PySem.W.depth_ints]; decide⟩, cl ns⟩
  · obtain ⟨a, _, rfl⟩ := List.mem_map.mp hd
    obtain ⟨b, _, rfl⟩ := List.mem_map.mp he
    rfl
  · obtain ⟨a, _, rfl⟩ := List.mem_map.mp hd
    rfl
theorem ed_maxI {n : Int} {ns : List Int} {Q : D → Prop} (h : Q (.int (ns.foldl max n))) : Ed (dPick PySem.W.maxD [.list (.int n :: ns.map .int)]) Q := by
  refine ⟨_, ?_, h⟩
  have := pick_ints (n :: ns)
  rw [List.map_cons] at this
  simp only [dPick, this, if_true, PySem.W.maxD_ints]
theorem x_want_of {ns : List Int} (hz : ns.length ≤ 1000) (hb : ∀ n ∈ ns, 0 ≤ n ∧ n ≤ 1000) : m_want_of [.list (ns.map .int)] = some (.int (wantI ns)) := by
  unfold m_want_of; refine mF_of ?_; walk_at "i"; unfold g_want_of
  walk_at "e"
  refine ed_sumI ?_
  walk_at "e"
  refine ev_lcX (xs := ns) (enc := .int) (b := fun _ => true) (g := fun n => .int (2 * n - ns.sum)) ?_
  walk_at "e"
  refine ⟨rfl, fun n hn => ?_, ?_⟩
  · walk_at "e"
    refine ⟨rfl, rfl, fun _ => ?_⟩
    walk_at "e"
    refine ed_mulI (Sp.mulW ⟨by decide, by decide⟩ ⟨by have := (hb n hn).1; omega, by have := (hb n hn).2; omega⟩) ?_
    walk_at "e"
  · rw [filter_tt]
    walk_at "e"
    refine ed_addL (by rw [List.length_map]; simp only [List.length_cons, List.length_nil]; omega) ?_
    walk_at "e"
    rw [List.cons_append, List.nil_append, show (ns.map fun n => PyData.int (2 * n - ns.sum)) = (ns.map fun n => 2 * n - ns.sum).map PyData.int from (by rw [List.map_map]; rfl)]
    refine ed_maxI ?_
    walk_at "e"
theorem ev_callNY {S : Sx} {n : Nat} {f : List D → Option (List D)} {g : M (List D)} {Q : D → Sx → Prop} (h : Ev (g S) fun ds S1 => ds.length = n ∧ Ed (f ds) fun z => Q (.list z) S1) : Ev (gCallN n f g S) Q := by
  obtain ⟨ds, S1, e, hl, z, e2, q⟩ := h
  exact ⟨_, _, by simp only [gCallN, e, Option.bind_some, hl, if_true, e2], q⟩
theorem grp_len {ls : List Ln} {q : Int} {gs : List (List (Int × Int))} (hl : ls.length ≤ 400) (hp : gs.Perm ((grp ls (ends ls q)).map (·.2))) : gs.length ≤ 800 ∧ ∀ g ∈ gs, g.length ≤ 800 := by
  have hE : (ends ls q).length ≤ 800 := by
    have : (ends ls q).length ≤ (allE ls.length).length := List.length_filter_le _ _
    rw [allE_len] at this
    omega
  obtain ⟨l1, l2⟩ := (grpOk (f := cmpy ls) (ends ls q)).lens
  refine ⟨?_, fun g hg => ?_⟩
  · rw [hp.length_eq, List.length_map]
    exact Nat.le_trans l1 hE
  · obtain ⟨x, hx, rfl⟩ := List.mem_map.mp (hp.mem_iff.mp hg)
    exact Nat.le_trans (l2 x hx) hE
theorem x_want_at {w : D} {p q : Int} {ls : List Ln} (hw : Web w p ls) (hl : ls.length ≤ 400) (q0 : 0 ≤ q) (q1 : q < p) : m_want_at [w, .int q] = some (.int (wnt ls q)) := by
  obtain ⟨gs, e, hp⟩ := x_by_companies hw hl q0 q1
  obtain ⟨g1, g2⟩ := grp_len hl hp
  unfold m_want_at; refine mF_of ?_; walk_at "i"; unfold g_want_at
  walk_at "e"
  refine ev_lcX (xs := gs) (enc := fun g => .list (g.map en)) (b := fun _ => true) (g := fun g => .int (g.length : Int)) ?_
  walk_at "e"
  refine ev_callNY ?_
  walk_at "e"
  refine Ed.of e ?_
  walk_at "e"
  refine ⟨rfl, fun g hg => ?_, ?_⟩
  · walk_at "e"
    refine ⟨rfl, rfl, fun _ => ?_⟩
    walk_at "e"
    exact ⟨by rw [List.length_map], rfl⟩
  · rw [filter_tt]
    walk_at "e"
    have hn := x_want_of (ns := gs.map fun g => (g.length : Int)) (by rw [List.length_map]; omega) fun n hn => by
      obtain ⟨g, hg, rfl⟩ := List.mem_map.mp hn
      have := g2 g hg
      omega
    rw [List.map_map, wantI_wnt hp] at hn
    refine Ed.of hn ?_
    walk_at "e"
/-! #### the law's own want -/
end Gr
end

end Lw

set_option maxHeartbeats 4000000
namespace Lw
open PySem Fu
local macro_rules | `(tactic| walk_at "e1") => `(tactic| first
  | with_reducible refine eo_seq ?_ | (with_reducible refine then_nx' ?_; refine ⟨?_, ?_, ?_⟩; rotate_left; · (try dsimp only [List.set, List.length_cons, List.length_nil, List.cons_append, List.nil_append, Nat.zero_add, Nat.reduceAdd]); exact rfl) | with_reducible refine then_rt ?_ | with_reducible refine eo_if ?_ | with_reducible refine eo_ret ?_ | with_reducible refine eo_set ?_ | with_reducible refine eo_asg ?_ | with_reducible refine eo_drop ?_ | with_reducible refine eo_nx ?_ | with_reducible refine eo_par ?_ | with_reducible refine eo_own ?_ | with_reducible refine eo_retN ?_ | with_reducible refine eo_for ?_ | with_reducible refine eo_retO ?_
  | with_reducible refine ev_c ?_ | (with_reducible refine ev_var ?_; refine ⟨_, rfl, ?_⟩) | with_reducible refine ev_bin ?_ | with_reducible refine ev_un ?_ | with_reducible refine ev_nil ?_ | with_reducible refine ev_cons ?_
  | with_reducible refine ev_tup ?_ | with_reducible refine ev_lst ?_ | with_reducible refine ev_call ?_ | with_reducible refine ev_callF ?_ | with_reducible refine ev_isi ?_ | with_reducible refine ev_isi2 ?_ | with_reducible refine ev_andV ?_ | with_reducible refine ev_orV ?_ | with_reducible refine ev_notV ?_
  | with_reducible refine ev_B ?_ | with_reducible refine ev_and ?_ | with_reducible refine ev_or ?_ | with_reducible refine ev_not ?_ | with_reducible refine ev_yes ?_ | with_reducible refine ev_if ?_ | with_reducible refine ev_no ?_ | with_reducible refine ev_so ?_ | with_reducible refine ev_sl ?_ | with_reducible refine ev_items ?_
  | (with_reducible refine ev_ixO ?_; refine ⟨_, _, rfl, rfl, ?_⟩) | (with_reducible refine ev_varO ?_; refine ⟨_, _, rfl, rfl, ?_⟩) | (with_reducible refine ev_lenO ?_; refine ⟨_, _, rfl, rfl, ?_⟩) | (with_reducible refine ev_scrSl ?_; refine ⟨_, rfl, ?_⟩) | (with_reducible refine ev_scrLen ?_; refine ⟨_, rfl, ?_⟩) | (with_reducible refine ev_callScr ?_; refine ⟨_, rfl, ?_⟩) | (with_reducible refine ev_OL ?_; refine ⟨_, _, rfl, rfl, ?_⟩) | with_reducible refine ev_OR ?_ | with_reducible refine ev_rep ?_ | with_reducible refine ev_listRng1 ?_ | with_reducible refine eo_setO ?_
  | with_reducible refine es_name ?_ | with_reducible refine es_tup2 ?_ | with_reducible refine es_tup3 ?_
  | with_reducible refine ed_addI ?_ | with_reducible refine ed_subI ?_ | with_reducible refine ed_cmp ?_ | with_reducible refine ed_eqI ?_ | with_reducible refine ed_neI ?_ | with_reducible refine ed_slT ?_ | with_reducible refine ed_slL ?_ | with_reducible refine ed_lenT ?_ | with_reducible refine ed_lenL ?_ | with_reducible refine ed_lenS ?_ | with_reducible refine ed_inS ?_ | with_reducible refine ed_itT ?_ | with_reducible refine ed_itL ?_ | with_reducible refine ed_tupL ?_ | with_reducible refine ed_tupT ?_ | with_reducible refine ed_listL ?_ | with_reducible refine ed_listT ?_ | with_reducible refine ed_neg ?_ | with_reducible refine ed_max ?_ | with_reducible refine ed_min ?_ | with_reducible refine ed_intB ?_)
local macro_rules | `(tactic| walk_at "e2") => `(tactic| first
  | walk_at "e1" | with_reducible refine ⟨_, rfl, ?_⟩ | with_reducible refine ⟨_, _, rfl, ?_⟩
  | with_reducible refine And.intro (Eq.refl (List.length _)) ?_ | with_reducible refine And.intro (Nat.le_of_ble_eq_true (n := List.length _) rfl) ?_
  | with_reducible refine And.intro (Eq.refl (_ : Sx)) (?_ : Ed _ _)
  | with_reducible exact gives_nx | with_reducible (refine gives_rt ?_; rfl))
local macro_rules | `(tactic| walk_at "e") => `(tactic| repeat walk_at "e2")
/-- begin a def's spec -/
local macro_rules | `(tactic| walk_at "i") => `(tactic| simp only [initS, List.map_cons, List.map_nil, List.length_cons, List.length_nil, Nat.reduceAdd, Nat.reduceSub, List.replicate, List.cons_append, List.nil_append])

section
def rv (es : List (Int × Int)) : List (Int × Int) := es.reverse.map far
def rot (k : Nat) (es : List (Int × Int)) : List (Int × Int) := es.drop k ++ es.take k
def ways (es : List (Int × Int)) : List (List (Int × Int)) := ((List.range es.length).map fun k => rot k es) ++ ((List.range es.length).map fun k => rot k (rv es))
/-! ### rounds and rides, in plain words -/
/-! ### the least of all ways -/
end

end Lw

set_option maxHeartbeats 4000000
namespace Lw
open PySem Fu
local macro_rules | `(tactic| walk_at "e1") => `(tactic| first
  | with_reducible refine eo_seq ?_ | (with_reducible refine then_nx' ?_; refine ⟨?_, ?_, ?_⟩; rotate_left; · (try dsimp only [List.set, List.length_cons, List.length_nil, List.cons_append, List.nil_append, Nat.zero_add, Nat.reduceAdd]); exact rfl) | with_reducible refine then_rt ?_ | with_reducible refine eo_if ?_ | with_reducible refine eo_ret ?_ | with_reducible refine eo_set ?_ | with_reducible refine eo_asg ?_ | with_reducible refine eo_drop ?_ | with_reducible refine eo_nx ?_ | with_reducible refine eo_par ?_ | with_reducible refine eo_own ?_ | with_reducible refine eo_retN ?_ | with_reducible refine eo_for ?_ | with_reducible refine eo_retO ?_
  | with_reducible refine ev_c ?_ | (with_reducible refine ev_var ?_; refine ⟨_, rfl, ?_⟩) | with_reducible refine ev_bin ?_ | with_reducible refine ev_un ?_ | with_reducible refine ev_nil ?_ | with_reducible refine ev_cons ?_
  | with_reducible refine ev_tup ?_ | with_reducible refine ev_lst ?_ | with_reducible refine ev_call ?_ | with_reducible refine ev_callF ?_ | with_reducible refine ev_isi ?_ | with_reducible refine ev_isi2 ?_ | with_reducible refine ev_andV ?_ | with_reducible refine ev_orV ?_ | with_reducible refine ev_notV ?_
  | with_reducible refine ev_B ?_ | with_reducible refine ev_and ?_ | with_reducible refine ev_or ?_ | with_reducible refine ev_not ?_ | with_reducible refine ev_yes ?_ | with_reducible refine ev_if ?_ | with_reducible refine ev_no ?_ | with_reducible refine ev_so ?_ | with_reducible refine ev_sl ?_ | with_reducible refine ev_items ?_
  | (with_reducible refine ev_ixO ?_; refine ⟨_, _, rfl, rfl, ?_⟩) | (with_reducible refine ev_varO ?_; refine ⟨_, _, rfl, rfl, ?_⟩) | (with_reducible refine ev_lenO ?_; refine ⟨_, _, rfl, rfl, ?_⟩) | (with_reducible refine ev_scrSl ?_; refine ⟨_, rfl, ?_⟩) | (with_reducible refine ev_scrLen ?_; refine ⟨_, rfl, ?_⟩) | (with_reducible refine ev_callScr ?_; refine ⟨_, rfl, ?_⟩) | (with_reducible refine ev_OL ?_; refine ⟨_, _, rfl, rfl, ?_⟩) | with_reducible refine ev_OR ?_ | with_reducible refine ev_rep ?_ | with_reducible refine ev_listRng1 ?_ | with_reducible refine eo_setO ?_
  | with_reducible refine es_name ?_ | with_reducible refine es_tup2 ?_ | with_reducible refine es_tup3 ?_
  | with_reducible refine ed_addI ?_ | with_reducible refine ed_subI ?_ | with_reducible refine ed_cmp ?_ | with_reducible refine ed_eqI ?_ | with_reducible refine ed_neI ?_ | with_reducible refine ed_slT ?_ | with_reducible refine ed_slL ?_ | with_reducible refine ed_lenT ?_ | with_reducible refine ed_lenL ?_ | with_reducible refine ed_lenS ?_ | with_reducible refine ed_inS ?_ | with_reducible refine ed_itT ?_ | with_reducible refine ed_itL ?_ | with_reducible refine ed_tupL ?_ | with_reducible refine ed_tupT ?_ | with_reducible refine ed_listL ?_ | with_reducible refine ed_listT ?_ | with_reducible refine ed_neg ?_ | with_reducible refine ed_max ?_ | with_reducible refine ed_min ?_ | with_reducible refine ed_intB ?_
  | with_reducible refine ev_rng1 ?_ | with_reducible refine ev_rng2 ?_)
local macro_rules | `(tactic| walk_at "sd") => `(tactic| first | rfl | assumption | (simp only [decide_eq_true_eq, decide_eq_false_iff_not, Bool.not_eq_true', Bool.not_eq_false', Bool.and_eq_true, Bool.or_eq_true, List.length_map, List.length_cons, List.length_nil, List.length_append, List.length_range] at *; omega))
local macro_rules | `(tactic| walk_at "e2") => `(tactic| first
  | walk_at "e1" | with_reducible refine ⟨_, rfl, ?_⟩ | with_reducible refine ⟨_, _, rfl, ?_⟩
  | with_reducible refine And.intro (Eq.refl (List.length _)) ?_ | with_reducible refine And.intro (Nat.le_of_ble_eq_true (n := List.length _) rfl) ?_
  | with_reducible refine And.intro (Eq.refl (_ : Sx)) (?_ : Ed _ _)
  | ((with_reducible refine And.intro ?_ (And.intro ?_ (?_ : Ev _ _))); (· rfl); (· rfl))
  | ((with_reducible refine ed_ixT ?_ ?_ ?_); (· decide); (· rfl)) | ((with_reducible refine ed_ixL ?_ ?_ ?_); (· decide); (· rfl)) | ((with_reducible refine ed_at ?_ ?_ ?_); (· decide); (· rfl))
  | ((with_reducible refine ed_modI ?_ ?_); (· first | decide | omega))
  | with_reducible exact gives_nx | ((with_reducible refine gives_rt ?_); (· rfl)) | ((with_reducible refine And.intro ?_ ?_); (· exact rfl); (· with_reducible exact Eq.refl (_ : Sx))))
local macro_rules | `(tactic| walk_at "e") => `(tactic| repeat walk_at "e2")
/-- begin a def's spec -/
local macro_rules | `(tactic| walk_at "i") => `(tactic| simp only [initS, List.map_cons, List.map_nil, List.length_cons, List.length_nil, Nat.reduceAdd, Nat.reduceSub, List.replicate, List.cons_append, List.nil_append])
/-- a known truth decides -/
local macro_rules | `(tactic| walk_at "t") => `(tactic| first | ((with_reducible refine split_t ?_ ?_); (· walk_at "sd")) | ((with_reducible refine split_t' ?_ ?_); (· walk_at "sd")))
local macro_rules | `(tactic| walk_at "f") => `(tactic| first | ((with_reducible refine split_f ?_ ?_); (· walk_at "sd")) | ((with_reducible refine split_f' ?_ ?_); (· walk_at "sd")))
/-- all that is seen in a look -/
local macro_rules | `(tactic| walk_at "v") => `(tactic| (rw [sealAll_mk (by (simp only [List.set_cons_zero, List.set_cons_succ, List.map_cons, List.map_nil, sealS_none, sealS_dat, sealS_scr, sealS_own, List.getElem?_cons_zero, List.getElem?_cons_succ, sealC_lst]; rfl)) (by (simp only [List.set_cons_zero, List.set_cons_succ, List.map_cons, List.map_nil]; rfl))]))

section
/-! ### texts of data -/
theorem dEq_str (x y : Str) : dEq (.str x) (.str y) = some (.bool (decide (x = y))) := by
  unfold dEq
  split
  · congr 2
  · rfl
theorem dNe_str (x y : Str) : dNe (.str x) (.str y) = some (.bool (!decide (x = y))) := by
  unfold dNe
  split
  · congr 3
  · rfl
theorem dEq_str_self (x : Str) : dEq (.str x) (.str x) = some (.bool true) := by rw [dEq_str]; simp
theorem dNe_str_self (x : Str) : dNe (.str x) (.str x) = some (.bool false) := by rw [dNe_str]; simp
/-- what can be shown: its depth, its weight -/
structure Shw (n m : Nat) (d : D) : Prop where
  lay : d.canLay0 = true
  dep : d.depth ≤ n
  wt : d.weight ≤ m
  short : d.intsShort 13 = true
  sh : d.showable = true
theorem Shw.mono {n m n' m' : Nat} {d : D} (h : Shw n m d) (l : n ≤ n') (k : m ≤ m') : Shw n' m' d := ⟨h.lay, Nat.le_trans h.dep l, Nat.le_trans h.wt k, h.short, h.sh⟩
theorem Shw.ok {n m : Nat} {d : D} (h : Shw n m d) (hn : n ≤ 60) (hm : m ≤ 1048576) : showOk d = true := by
  unfold showOk
  have l : d.shown.length ≤ sizeLine := PyData.shown_fits (B := 13) (by decide) (by decide) (PyData.leavesShort_of_canLay0 13 d h.lay h.short) (by have := h.wt; omega)
  rw [sizeLine_eq] at l
  simp only [Bool.and_eq_true, decide_eq_true_eq, Bool.not_eq_true']
  exact ⟨⟨⟨⟨h.sh, PyData.hasDict_of_canLay d h.lay⟩, h.lay⟩, Nat.le_trans h.dep hn⟩, l⟩
theorem Shw.fine {n m : Nat} {d : D} (h : Shw n m d) : Fine n d := ⟨h.lay, h.dep⟩
/-! ### all tuples turned to lists -/
/-! ### how webs and rides are shown -/
end

end Lw

set_option maxHeartbeats 4000000
namespace Lw
open PySem Fu
local macro_rules | `(tactic| walk_at "e1") => `(tactic| first
  | with_reducible refine eo_seq ?_ | (with_reducible refine then_nx' ?_; refine ⟨?_, ?_, ?_⟩; rotate_left; · (try dsimp only [List.set, List.length_cons, List.length_nil, List.cons_append, List.nil_append, Nat.zero_add, Nat.reduceAdd]); exact rfl) | with_reducible refine then_rt ?_ | with_reducible refine eo_if ?_ | with_reducible refine eo_ret ?_ | with_reducible refine eo_set ?_ | with_reducible refine eo_asg ?_ | with_reducible refine eo_drop ?_ | with_reducible refine eo_nx ?_ | with_reducible refine eo_par ?_ | with_reducible refine eo_own ?_ | with_reducible refine eo_retN ?_ | with_reducible refine eo_for ?_ | with_reducible refine eo_retO ?_
  | with_reducible refine ev_c ?_ | (with_reducible refine ev_var ?_; refine ⟨_, rfl, ?_⟩) | with_reducible refine ev_bin ?_ | with_reducible refine ev_un ?_ | with_reducible refine ev_nil ?_ | with_reducible refine ev_cons ?_
  | with_reducible refine ev_tup ?_ | with_reducible refine ev_lst ?_ | with_reducible refine ev_call ?_ | with_reducible refine ev_callF ?_ | with_reducible refine ev_isi ?_ | with_reducible refine ev_isi2 ?_ | with_reducible refine ev_andV ?_ | with_reducible refine ev_orV ?_ | with_reducible refine ev_notV ?_
  | with_reducible refine ev_B ?_ | with_reducible refine ev_and ?_ | with_reducible refine ev_or ?_ | with_reducible refine ev_not ?_ | with_reducible refine ev_yes ?_ | with_reducible refine ev_if ?_ | with_reducible refine ev_no ?_ | with_reducible refine ev_so ?_ | with_reducible refine ev_sl ?_ | with_reducible refine ev_items ?_
  | (with_reducible refine ev_ixO ?_; refine ⟨_, _, rfl, rfl, ?_⟩) | (with_reducible refine ev_varO ?_; refine ⟨_, _, rfl, rfl, ?_⟩) | (with_reducible refine ev_lenO ?_; refine ⟨_, _, rfl, rfl, ?_⟩) | (with_reducible refine ev_scrSl ?_; refine ⟨_, rfl, ?_⟩) | (with_reducible refine ev_scrLen ?_; refine ⟨_, rfl, ?_⟩) | (with_reducible refine ev_callScr ?_; refine ⟨_, rfl, ?_⟩) | (with_reducible refine ev_OL ?_; refine ⟨_, _, rfl, rfl, ?_⟩) | with_reducible refine ev_OR ?_ | with_reducible refine ev_rep ?_ | with_reducible refine ev_listRng1 ?_ | with_reducible refine eo_setO ?_
  | with_reducible refine es_name ?_ | with_reducible refine es_tup2 ?_ | with_reducible refine es_tup3 ?_
  | with_reducible refine ed_addI ?_ | with_reducible refine ed_subI ?_ | with_reducible refine ed_cmp ?_ | with_reducible refine ed_eqI ?_ | with_reducible refine ed_neI ?_ | with_reducible refine ed_slT ?_ | with_reducible refine ed_slL ?_ | with_reducible refine ed_lenT ?_ | with_reducible refine ed_lenL ?_ | with_reducible refine ed_lenS ?_ | with_reducible refine ed_inS ?_ | with_reducible refine ed_itT ?_ | with_reducible refine ed_itL ?_ | with_reducible refine ed_tupL ?_ | with_reducible refine ed_tupT ?_ | with_reducible refine ed_listL ?_ | with_reducible refine ed_listT ?_ | with_reducible refine ed_neg ?_ | with_reducible refine ed_max ?_ | with_reducible refine ed_min ?_ | with_reducible refine ed_intB ?_)
local macro_rules | `(tactic| walk_at "e2") => `(tactic| first
  | walk_at "e1" | with_reducible refine ⟨_, rfl, ?_⟩ | with_reducible refine ⟨_, _, rfl, ?_⟩
  | with_reducible refine And.intro (Eq.refl (List.length _)) ?_ | with_reducible refine And.intro (Nat.le_of_ble_eq_true (n := List.length _) rfl) ?_
  | with_reducible refine And.intro (Eq.refl (_ : Sx)) (?_ : Ed _ _)
  | with_reducible exact gives_nx | with_reducible (refine gives_rt ?_; rfl))
local macro_rules | `(tactic| walk_at "e") => `(tactic| repeat walk_at "e2")
/-- begin a def's spec -/
local macro_rules | `(tactic| walk_at "i") => `(tactic| simp only [initS, List.map_cons, List.map_nil, List.length_cons, List.length_nil, Nat.reduceAdd, Nat.reduceSub, List.replicate, List.cons_append, List.nil_append])

section
namespace Sp
/-! ### the circle that the law plants -/
def lastN (sg : List Nat) : Nat := sg.getLast?.getD 0
def headN (sg : List Nat) : Nat := sg.head?.getD 0
structure Signs (sg : List Nat) : Prop where
  all : ∀ c ∈ sg, 97 ≤ c ∧ c ≤ 100
  adj : ∀ i a b, sg[i]? = some a → sg[i + 1]? = some b → a ≠ b
theorem Signs.add {sg : List Nat} {c : Nat} (h : Signs sg) (c0 : 97 ≤ c ∧ c ≤ 100) (h2 : sg ≠ [] → c ≠ lastN sg) : Signs (sg ++ [c]) := by
  refine ⟨fun x hx => ?_, fun i a b ha hb => ?_⟩
  · rcases List.mem_append.mp hx with hx | hx
    · exact h.all x hx
    · rw [List.mem_singleton.mp hx]; exact c0
  · by_cases hi : i + 1 < sg.length
    · rw [List.getElem?_append_left (by omega)] at ha
      rw [List.getElem?_append_left hi] at hb
      exact h.adj i a b ha hb
    · have hl : i + 1 < (sg ++ [c]).length := (List.getElem?_eq_some_iff.mp hb).1
      rw [List.length_append, List.length_singleton] at hl
      have hn : i + 1 = sg.length := by omega
      rw [List.getElem?_append_right (by omega), hn, Nat.sub_self] at hb
      have hb : c = b := by simpa using hb
      rw [List.getElem?_append_left (by omega)] at ha
      have hs : sg ≠ [] := fun z => by subst z; simp at hn
      have : a = lastN sg := by
        unfold lastN
        rw [List.getLast?_eq_getElem?, show sg.length - 1 = i by omega, ha]; rfl
      subst hb
      exact fun e => h2 hs (by rw [← e, this])
/-- the line at one step of the circle -/
def stepLn (n : Nat) (sp : List Int) (sg : List Nat) (i : Nat) (s : Int) : Ln :=
  if s = 0 then (sp.getD i 0, sp.getD ((i + 1) % n) 0, sg.getD i 0) else (sp.getD ((i + 1) % n) 0, sp.getD i 0, sg.getD i 0)
structure Half (p : Int) (first n k : Nat) (sp : List Int) (sg : List Nat) (L : List Nat) (qs : List (Option Ln)) (es : List (Int × Int)) : Prop where
  len : L.length + k = n
  nd : L.Nodup
  lt : ∀ m ∈ L, m < n
  qlen : qs.length = n
  free : ∀ m ∈ L, qs[m]? = some none
  full : ∀ m, m < n → m ∉ L → ∃ l, qs[m]? = some (some l) ∧ LnOk p l
  elen : es.length = k
  at' : ∀ i, i < k → ∃ (m : Nat) (s : Int), es[i]? = some (((first + m : Nat) : Int), s) ∧ m < n ∧ m ∉ L ∧ (s = 0 ∨ s = 1) ∧ qs[m]? = some (some (stepLn n sp sg i s))
  end' : (es.map Prod.fst).Nodup
  sub : ∀ e ∈ es, ∃ m : Nat, e.1 = ((first + m : Nat) : Int) ∧ m < n ∧ m ∉ L
theorem Half.step {p : Int} {first n k : Nat} {sp : List Int} {sg L : List Nat} {qs : List (Option Ln)} {es : List (Int × Int)} {v m : Nat} {s : Int} (h : Half p first n k sp sg L qs es) (hv : L[v]? = some m) (hs : s = 0 ∨ s = 1) (hl : LnOk p (stepLn n sp sg k s)) :
    Half p first n (k + 1) sp sg (L.eraseIdx v) (qs.set m (some (stepLn n sp sg k s))) (es ++ [(((first + m : Nat) : Int), s)]) := by
  obtain ⟨hvl, hve⟩ := List.getElem?_eq_some_iff.mp hv
  have hm : m ∈ L := List.mem_of_getElem? hv
  have hmn := h.lt m hm
  have hne : m ∉ L.eraseIdx v := by
    intro z
    rw [List.mem_eraseIdx_iff_getElem?] at z
    obtain ⟨i, hi, he⟩ := z
    obtain ⟨hil, hie⟩ := List.getElem?_eq_some_iff.mp he
    exact hi ((List.getElem_inj h.nd).mp (hie.trans hve.symm))
  have hsub : ∀ x ∈ L.eraseIdx v, x ∈ L := fun x hx => List.mem_of_mem_eraseIdx hx
  have hback : ∀ x ∈ L, x ≠ m → x ∈ L.eraseIdx v := fun x hx hxm => by
    rw [List.mem_eraseIdx_iff_getElem?]
    obtain ⟨i, hi⟩ := List.mem_iff_getElem?.mp hx
    refine ⟨i, fun e => ?_, hi⟩
    subst e
    rw [hv] at hi
    cases hi; exact hxm rfl
  refine ⟨?_, h.nd.sublist (List.eraseIdx_sublist L v), fun x hx => h.lt x (hsub x hx), by rw [List.length_set]; exact h.qlen, fun x hx => ?_, fun x hx hxl => ?_, ?_, fun i hi => ?_, ?_, fun e he => ?_⟩
  · rw [List.length_eraseIdx, if_pos hvl]
    have := h.len
    omega
  · rw [List.getElem?_set_ne (fun e : m = x => hne (by rw [e]; exact hx))]
    exact h.free x (hsub x hx)
  · by_cases e : x = m
    · subst e
      exact ⟨_, List.getElem?_set_self (by rw [h.qlen]; exact hx), hl⟩
    · rw [List.getElem?_set_ne (fun z => e z.symm)]
      exact h.full x hx fun z => hxl (hback x z e)
  · rw [List.length_append, h.elen]; rfl
  · by_cases hik : i < k
    · obtain ⟨x, t, h1, h2, h3, h4, h5⟩ := h.at' i hik
      refine ⟨x, t, by rw [List.getElem?_append_left (by rw [h.elen]; exact hik)]; exact h1, h2, fun z => h3 (hsub x z), h4, ?_⟩
      rw [List.getElem?_set_ne (fun z : m = x => h3 (by rw [← z]; exact hm))]
      exact h5
    · have : i = k := by omega
      subst this
      refine ⟨m, s, ?_, hmn, hne, hs, List.getElem?_set_self (by rw [h.qlen]; exact hmn)⟩
      rw [List.getElem?_append_right (by rw [h.elen]; exact Nat.le_refl _), h.elen, Nat.sub_self]; rfl
  · rw [List.map_append, List.nodup_append]
    refine ⟨h.end', by simp, fun a ha c hc => ?_⟩
    obtain ⟨e, he, rfl⟩ := List.mem_map.mp ha
    have hc : c = ((first + m : Nat) : Int) := by simpa using hc
    obtain ⟨x, h1, h2, h3⟩ := h.sub e he
    intro z
    have : x = m := by omega
    exact h3 (this ▸ hm)
  · rcases List.mem_append.mp he with he | he
    · obtain ⟨x, h1, h2, h3⟩ := h.sub e he
      exact ⟨x, h1, h2, fun z => h3 (hsub x z)⟩
    · rw [List.mem_singleton.mp he]
      exact ⟨m, rfl, hmn, hne⟩
structure Circ (p : Int) (first n : Nat) (sp : List Int) (sg : List Nat) (ks : List Ln) (es : List (Int × Int)) : Prop where
  spOk : ∀ x ∈ sp, 0 ≤ x ∧ x < p
  spl : sp.length = n
  sgOk : Signs sg
  sgl : sg.length = n
  ends : lastN sg ≠ headN sg
  half : Half p first n n sp sg [] (ks.map some) es
/-! ### a planted round -/
theorem Circ.at {p : Int} {n : Nat} {sp : List Int} {sg : List Nat} {ks more : List Ln} {es : List (Int × Int)} (h : Circ p 0 n sp sg ks es) {i : Nat} (hi : i < n) :
    ∃ e, es[i]? = some e ∧ EndOk (ks ++ more).length e ∧ plc (ks ++ more) e = sp.getD i 0 ∧ plc (ks ++ more) (far e) = sp.getD ((i + 1) % n) 0 ∧ cmpy (ks ++ more) e = sg.getD i 0 := by
  obtain ⟨m, s, h1, h2, _, hs, h5⟩ := h.half.at' i hi
  have hk : ks.length = n := by have := h.half.qlen; rwa [List.length_map] at this
  rw [Nat.zero_add] at h1
  have h6 : (ks ++ more)[m]? = some (stepLn n sp sg i s) := by
    rw [List.getElem?_append_left (by omega)]
    rw [List.getElem?_map] at h5
    obtain ⟨l, e1, e2⟩ := Option.map_eq_some_iff.mp h5
    cases e2
    exact e1
  refine ⟨_, h1, ⟨by simp, by simp; omega, by simp only; omega, by simp only; omega⟩, ?_, ?_, ?_⟩
  · unfold plc
    simp only [Int.toNat_natCast, h6]
    rcases hs with rfl | rfl <;> simp [sideOf, stepLn]
  · unfold plc far
    simp only [Int.toNat_natCast, h6]
    rcases hs with rfl | rfl <;> simp [sideOf, stepLn]
  · unfold cmpy
    simp only [Int.toNat_natCast, h6]
    rcases hs with rfl | rfl <;> simp [stepLn]
end Sp
end

end Lw

set_option maxHeartbeats 4000000
namespace Lw
open PySem Fu
local macro_rules | `(tactic| walk_at "e1") => `(tactic| first
  | with_reducible refine eo_seq ?_ | (with_reducible refine then_nx' ?_; refine ⟨?_, ?_, ?_⟩; rotate_left; · (try dsimp only [List.set, List.length_cons, List.length_nil, List.cons_append, List.nil_append, Nat.zero_add, Nat.reduceAdd]); exact rfl) | with_reducible refine then_rt ?_ | with_reducible refine eo_if ?_ | with_reducible refine eo_ret ?_ | with_reducible refine eo_set ?_ | with_reducible refine eo_asg ?_ | with_reducible refine eo_drop ?_ | with_reducible refine eo_nx ?_ | with_reducible refine eo_par ?_ | with_reducible refine eo_own ?_ | with_reducible refine eo_retN ?_ | with_reducible refine eo_for ?_ | with_reducible refine eo_retO ?_
  | with_reducible refine ev_c ?_ | (with_reducible refine ev_var ?_; refine ⟨_, rfl, ?_⟩) | with_reducible refine ev_bin ?_ | with_reducible refine ev_un ?_ | with_reducible refine ev_nil ?_ | with_reducible refine ev_cons ?_
  | with_reducible refine ev_tup ?_ | with_reducible refine ev_lst ?_ | with_reducible refine ev_call ?_ | with_reducible refine ev_callF ?_ | with_reducible refine ev_isi ?_ | with_reducible refine ev_isi2 ?_ | with_reducible refine ev_andV ?_ | with_reducible refine ev_orV ?_ | with_reducible refine ev_notV ?_
  | with_reducible refine ev_B ?_ | with_reducible refine ev_and ?_ | with_reducible refine ev_or ?_ | with_reducible refine ev_not ?_ | with_reducible refine ev_yes ?_ | with_reducible refine ev_if ?_ | with_reducible refine ev_no ?_ | with_reducible refine ev_so ?_ | with_reducible refine ev_sl ?_ | with_reducible refine ev_items ?_
  | (with_reducible refine ev_ixO ?_; refine ⟨_, _, rfl, rfl, ?_⟩) | (with_reducible refine ev_varO ?_; refine ⟨_, _, rfl, rfl, ?_⟩) | (with_reducible refine ev_lenO ?_; refine ⟨_, _, rfl, rfl, ?_⟩) | (with_reducible refine ev_scrSl ?_; refine ⟨_, rfl, ?_⟩) | (with_reducible refine ev_scrLen ?_; refine ⟨_, rfl, ?_⟩) | (with_reducible refine ev_callScr ?_; refine ⟨_, rfl, ?_⟩) | (with_reducible refine ev_OL ?_; refine ⟨_, _, rfl, rfl, ?_⟩) | with_reducible refine ev_OR ?_ | with_reducible refine ev_rep ?_ | with_reducible refine ev_listRng1 ?_ | with_reducible refine eo_setO ?_
  | with_reducible refine es_name ?_ | with_reducible refine es_tup2 ?_ | with_reducible refine es_tup3 ?_
  | with_reducible refine ed_addI ?_ | with_reducible refine ed_subI ?_ | with_reducible refine ed_cmp ?_ | with_reducible refine ed_eqI ?_ | with_reducible refine ed_neI ?_ | with_reducible refine ed_slT ?_ | with_reducible refine ed_slL ?_ | with_reducible refine ed_lenT ?_ | with_reducible refine ed_lenL ?_ | with_reducible refine ed_lenS ?_ | with_reducible refine ed_inS ?_ | with_reducible refine ed_itT ?_ | with_reducible refine ed_itL ?_ | with_reducible refine ed_tupL ?_ | with_reducible refine ed_tupT ?_ | with_reducible refine ed_listL ?_ | with_reducible refine ed_listT ?_ | with_reducible refine ed_neg ?_ | with_reducible refine ed_max ?_ | with_reducible refine ed_min ?_ | with_reducible refine ed_intB ?_
  | with_reducible refine ev_rng1 ?_ | with_reducible refine ev_rng2 ?_)
local macro_rules | `(tactic| walk_at "sd") => `(tactic| first | rfl | assumption | (simp only [decide_eq_true_eq, decide_eq_false_iff_not, Bool.not_eq_true', Bool.not_eq_false', Bool.and_eq_true, Bool.or_eq_true, List.length_map, List.length_cons, List.length_nil, List.length_append, List.length_range] at *; omega))
local macro_rules | `(tactic| walk_at "e2") => `(tactic| first
  | walk_at "e1" | with_reducible refine ⟨_, rfl, ?_⟩ | with_reducible refine ⟨_, _, rfl, ?_⟩
  | with_reducible refine And.intro (Eq.refl (List.length _)) ?_ | with_reducible refine And.intro (Nat.le_of_ble_eq_true (n := List.length _) rfl) ?_
  | with_reducible refine And.intro (Eq.refl (_ : Sx)) (?_ : Ed _ _)
  | ((with_reducible refine And.intro ?_ (And.intro ?_ (?_ : Ev _ _))); (· rfl); (· rfl))
  | ((with_reducible refine ed_ixT ?_ ?_ ?_); (· decide); (· rfl)) | ((with_reducible refine ed_ixL ?_ ?_ ?_); (· decide); (· rfl)) | ((with_reducible refine ed_at ?_ ?_ ?_); (· decide); (· rfl))
  | ((with_reducible refine ed_modI ?_ ?_); (· first | decide | omega))
  | with_reducible exact gives_nx | ((with_reducible refine gives_rt ?_); (· rfl)) | ((with_reducible refine And.intro ?_ ?_); (· exact rfl); (· with_reducible exact Eq.refl (_ : Sx))))
local macro_rules | `(tactic| walk_at "e") => `(tactic| repeat walk_at "e2")
/-- begin a def's spec -/
local macro_rules | `(tactic| walk_at "i") => `(tactic| simp only [initS, List.map_cons, List.map_nil, List.length_cons, List.length_nil, Nat.reduceAdd, Nat.reduceSub, List.replicate, List.cons_append, List.nil_append])
/-- a known truth decides -/
local macro_rules | `(tactic| walk_at "t") => `(tactic| first | ((with_reducible refine split_t ?_ ?_); (· walk_at "sd")) | ((with_reducible refine split_t' ?_ ?_); (· walk_at "sd")))
local macro_rules | `(tactic| walk_at "f") => `(tactic| first | ((with_reducible refine split_f ?_ ?_); (· walk_at "sd")) | ((with_reducible refine split_f' ?_ ?_); (· walk_at "sd")))
/-- all that is seen in a look -/
local macro_rules | `(tactic| walk_at "v") => `(tactic| (rw [sealAll_mk (by (simp only [List.set_cons_zero, List.set_cons_succ, List.map_cons, List.map_nil, sealS_none, sealS_dat, sealS_scr, sealS_own, List.getElem?_cons_zero, List.getElem?_cons_succ, sealC_lst]; rfl)) (by (simp only [List.set_cons_zero, List.set_cons_succ, List.map_cons, List.map_nil]; rfl))]))

section
/-! ### the law's own looks -/
theorem allE_range (n : Nat) : (List.range (2 * n)).map (fun k : Nat => (((k / 2 : Nat) : Int), ((k % 2 : Nat) : Int))) = allE n := by
  unfold allE
  induction n with
  | zero => rfl
  | succ n ih =>
    rw [show 2 * (n + 1) = 2 * n + 1 + 1 by omega, List.range_succ, List.range_succ, List.range_succ, List.map_append, List.map_append, ih, List.flatMap_append]
    simp only [List.map_cons, List.map_nil, List.flatMap_cons, List.flatMap_nil, List.append_nil, List.append_assoc, List.cons_append, List.nil_append]
    rw [show 2 * n / 2 = n by omega, show 2 * n % 2 = 0 by omega, show (2 * n + 1) / 2 = n by omega, show (2 * n + 1) % 2 = 1 by omega]
    rfl
end

section
namespace Sp
end Sp
theorem fine_en {d : D} {e : Int × Int} (s : IsEn d e) : Fine 1 d := by
  rcases s with rfl | rfl
  · exact fine_list (n := 0) fun x hx => by
      simp only [List.mem_cons, List.not_mem_nil, or_false] at hx
      rcases hx with rfl | rfl <;> exact fine_int _
  · exact fine_tup (n := 0) fun x hx => by
      simp only [List.mem_cons, List.not_mem_nil, or_false] at hx
      rcases hx with rfl | rfl <;> exact fine_int _
end

section
namespace Sp
/-- a text of letters -/
def Letters (x : Str) : Prop := 0 < x.length ∧ x.length ≤ 26 ∧ ∀ c ∈ x.cps.toList, Let c
theorem letters_few {x : Str} {l : List Nat} (e : x.cps.toList = l) (h0 : 0 < l.length) (h1 : l.length ≤ 26) (h : ∀ c ∈ l, Let c) : Letters x := by
  have : x.length = l.length := by rw [← e, Array.length_toList]; rfl
  exact ⟨by omega, by omega, by rw [e]; exact h⟩
end Sp
end

section
namespace Sp
end Sp
end

section
namespace Sp
end Sp
end

section
namespace Sp
end Sp
end

section
namespace Bg
/-! ### the bag -/
structure Bag (b : Nat) (cs : List D) : Prop where
  ex : ∃ (ns : List Int) (pos : Nat) (rest cnt total : Int), cs = [.list (ns.map .int), .int pos, .int rest, .int cnt, .int total] ∧ ns.length ≤ 63 ∧ pos ≤ ns.length ∧ 0 ≤ rest ∧ 0 ≤ cnt ∧ cnt + b ≤ 4294967296 ∧ 0 ≤ total ∧ total < 2305843009213693951
theorem Bag.mono {a b : Nat} {cs : List D} (h : Bag a cs) (l : b ≤ a) : Bag b cs := by
  obtain ⟨f, s, n, t, u, h1, h2, h3, h4, h5, h6, h7⟩ := h
  exact ⟨f, s, n, t, u, h1, h2, h3, h4, h5, by omega, h7⟩
end Bg
end

section
/-- a comprehension that writes lists: what stands is said of all that was gathered -/
theorem turns_acc {gg : D → Sx → Option Sx} {ge : M D} {vs : List Nat} {w : List (Option R)} {ds0 : List D} (J : List D → List (Option Cell) → Prop)
    (h : ∀ i d acc os, ds0[i]? = some d → acc.length = i → J acc os → ∃ S2, gg d ⟨w, os⟩ = some S2 ∧ ∃ e S4, ge S2 = some (e, S4) ∧ wipeS S4.sl vs = w ∧ J (acc ++ [e]) S4.os) :
    ∀ (ds : List D) (acc : List D) (sl : List (Option R)) (os : List (Option Cell)), ds = ds0.drop acc.length → wipeS sl vs = w → J acc os →
      ∃ es sl' os', gTurns gg gYes ge vs ds ⟨sl, os⟩ = some (es, ⟨sl', os'⟩) ∧ wipeS sl' vs = w ∧ J (acc ++ es) os' ∧ es.length = ds.length
  | [], acc, sl, os, _, hw, hj => ⟨[], sl, os, rfl, hw, by rw [List.append_nil]; exact hj, rfl⟩
  | d :: ds, acc, sl, os, hd, hw, hj => by
    have hi : ds0[acc.length]? = some d := by
      have : (ds0.drop acc.length)[0]? = some d := by rw [← hd]; rfl
      rwa [List.getElem?_drop, Nat.add_zero] at this
    obtain ⟨S2, e2, e, ⟨sl4, os4⟩, e4, hw4, hj4⟩ := h _ d acc os hi rfl hj
    obtain ⟨es, sl', os', e5, hw5, hj5, hl⟩ := turns_acc J h ds (acc ++ [e]) sl4 os4 (by
      rw [List.length_append, List.length_singleton, ← List.drop_drop, ← hd]; rfl) hw4 hj4
    refine ⟨e :: es, sl', os', ?_, hw5, by rw [List.append_assoc] at hj5; exact hj5, by simp [hl]⟩
    rw [gTurns]
    simp only [hw, e2, Option.bind_some, gYes, if_true, e4, e5]
theorem ev_lcA {S : Sx} {Q : D → Sx → Prop} {gi : M (List D)} {gg : D → Sx → Option Sx} {ge : M D} {vs : List Nat} (J : List D → List (Option Cell) → Prop)
    (h : Ev (gi S) fun ds S1 => J [] S1.os ∧ (∀ i d acc os, ds[i]? = some d → acc.length = i → J acc os → Es (gg d ⟨wipeS S1.sl vs, os⟩) fun S2 => Ev (ge S2) fun e S4 => wipeS S4.sl vs = wipeS S1.sl vs ∧ J (acc ++ [e]) S4.os) ∧
      (∀ acc os, acc.length = ds.length → J acc os → Q (.list acc) ⟨S1.sl, os⟩)) : Ev (gLc gi gg gYes ge vs S) Q := by
  obtain ⟨ds, ⟨sl1, os1⟩, e1, h0, h1, q⟩ := h
  obtain ⟨es, sl', os', e2, hw, hj, hl⟩ := turns_acc (gg := gg) (ge := ge) (vs := vs) (w := wipeS sl1 vs) (ds0 := ds) J (fun i d acc os hd ha hj => by
    obtain ⟨S2, h2, e, S4, h4, h5⟩ := h1 i d acc os hd ha hj
    exact ⟨S2, h2, e, S4, h4, h5⟩) ds [] sl1 os1 rfl rfl h0
  refine ⟨_, _, ?_, q es os' hl (by simpa using hj)⟩
  unfold gLc
  rw [e1]
  simp only [Option.bind_some, e2, backS_same hw]
theorem ev_enum {S : Sx} {g : M (List D)} {L : List D → Sx → Prop} (h : Ev (g S) fun ds S1 => ∃ xs, ds = [.list xs] ∧ L (enumD 0 xs) S1) : Ev (gEnumA g S) L := by
  obtain ⟨ds, S1, e, xs, rfl, q⟩ := h
  exact ⟨_, S1, by simp only [gEnumA, e, Option.bind_some], q⟩
namespace Bg
end Bg
end

section
theorem ed_ixLx {xs : List D} {i : Int} {Q : D → Prop} (h : ∃ d, 0 ≤ i ∧ xs[i.toNat]? = some d ∧ Q d) : Ed (dIx (.list xs) (.int i)) Q := by
  obtain ⟨d, h0, e, q⟩ := h
  exact ed_ixL h0 e q
theorem ed_ixTx {xs : List D} {i : Int} {Q : D → Prop} (h : ∃ d, 0 ≤ i ∧ xs[i.toNat]? = some d ∧ Q d) : Ed (dIx (.tuple xs) (.int i)) Q := by
  obtain ⟨d, h0, e, q⟩ := h
  exact ed_ixT h0 e q
theorem es_star {i j : Nat} {d : D} {ds : List D} {S : Sx} {W : Sx → Prop} (h : W ⟨(S.sl.set i (some (.dat d))).set j (some (.dat (.list ds))), S.os⟩) : Es (sStar1 (sCons (sName i) (sCons (sName j) sNil)) (.list (d :: ds)) S) W := ⟨_, rfl, h⟩
theorem ed_dneSelf {x : Str} {Q : D → Prop} (q : Q (.bool false)) : Ed (dNe (.str x) (.str x)) Q := ⟨_, dNe_str_self x, q⟩
theorem ed_deqSelf {x : Str} {Q : D → Prop} (q : Q (.bool true)) : Ed (dEq (.str x) (.str x)) Q := ⟨_, dEq_str_self x, q⟩
section
variable {P R : Prop}
theorem an_tt (h : P) : (true = true → P) ∧ (true = false → R) := ⟨fun _ => h, fun z => (nomatch z)⟩
theorem an_ft (h : P) : (false = true → R) ∧ (false = false → P) := ⟨fun z => (nomatch z), fun _ => h⟩
theorem an_tf (h : P) : (true = false → R) ∧ (true = true → P) := ⟨fun z => (nomatch z), fun _ => h⟩
theorem an_ff (h : P) : (false = false → P) ∧ (false = true → R) := ⟨fun _ => h, fun z => (nomatch z)⟩
theorem an_ntt (h : P) : ((!true) = true → R) ∧ ((!true) = false → P) := ⟨fun z => absurd z (by decide), fun _ => h⟩
theorem an_nft (h : P) : ((!false) = true → P) ∧ ((!false) = false → R) := ⟨fun _ => h, fun z => absurd z (by decide)⟩
theorem an_ntf (h : P) : ((!true) = false → P) ∧ ((!true) = true → R) := ⟨fun _ => h, fun z => absurd z (by decide)⟩
theorem an_nff (h : P) : ((!false) = false → R) ∧ ((!false) = true → P) := ⟨fun z => absurd z (by decide), fun _ => h⟩
end
end

end Lw

set_option maxHeartbeats 4000000
namespace Lw
open PySem Fu
local macro_rules | `(tactic| walk_at "e1") => `(tactic| first
  | with_reducible refine eo_seq ?_ | (with_reducible refine then_nx' ?_; refine ⟨?_, ?_, ?_⟩; rotate_left; · (try dsimp only [List.set, List.length_cons, List.length_nil, List.cons_append, List.nil_append, Nat.zero_add, Nat.reduceAdd]); exact rfl) | with_reducible refine then_rt ?_ | with_reducible refine eo_if ?_ | with_reducible refine eo_ret ?_ | with_reducible refine eo_set ?_ | with_reducible refine eo_asg ?_ | with_reducible refine eo_drop ?_ | with_reducible refine eo_nx ?_ | with_reducible refine eo_par ?_ | with_reducible refine eo_own ?_ | with_reducible refine eo_retN ?_ | with_reducible refine eo_for ?_ | with_reducible refine eo_retO ?_
  | with_reducible refine ev_c ?_ | (with_reducible refine ev_var ?_; refine ⟨_, rfl, ?_⟩) | with_reducible refine ev_bin ?_ | with_reducible refine ev_un ?_ | with_reducible refine ev_nil ?_ | with_reducible refine ev_cons ?_
  | with_reducible refine ev_tup ?_ | with_reducible refine ev_lst ?_ | with_reducible refine ev_call ?_ | with_reducible refine ev_callF ?_ | with_reducible refine ev_isi ?_ | with_reducible refine ev_isi2 ?_ | with_reducible refine ev_andV ?_ | with_reducible refine ev_orV ?_ | with_reducible refine ev_notV ?_
  | with_reducible refine ev_B ?_ | with_reducible refine ev_and ?_ | with_reducible refine ev_or ?_ | with_reducible refine ev_not ?_ | with_reducible refine ev_yes ?_ | with_reducible refine ev_if ?_ | with_reducible refine ev_no ?_ | with_reducible refine ev_so ?_ | with_reducible refine ev_sl ?_ | with_reducible refine ev_items ?_
  | (with_reducible refine ev_ixO ?_; refine ⟨_, _, rfl, rfl, ?_⟩) | (with_reducible refine ev_varO ?_; refine ⟨_, _, rfl, rfl, ?_⟩) | (with_reducible refine ev_lenO ?_; refine ⟨_, _, rfl, rfl, ?_⟩) | (with_reducible refine ev_scrSl ?_; refine ⟨_, rfl, ?_⟩) | (with_reducible refine ev_scrLen ?_; refine ⟨_, rfl, ?_⟩) | (with_reducible refine ev_callScr ?_; refine ⟨_, rfl, ?_⟩) | (with_reducible refine ev_OL ?_; refine ⟨_, _, rfl, rfl, ?_⟩) | with_reducible refine ev_OR ?_ | with_reducible refine ev_rep ?_ | with_reducible refine ev_listRng1 ?_ | with_reducible refine eo_setO ?_
  | with_reducible refine es_name ?_ | with_reducible refine es_tup2 ?_ | with_reducible refine es_tup3 ?_
  | with_reducible refine ed_addI ?_ | with_reducible refine ed_subI ?_ | with_reducible refine ed_cmp ?_ | with_reducible refine ed_eqI ?_ | with_reducible refine ed_neI ?_ | with_reducible refine ed_slT ?_ | with_reducible refine ed_slL ?_ | with_reducible refine ed_lenT ?_ | with_reducible refine ed_lenL ?_ | with_reducible refine ed_lenS ?_ | with_reducible refine ed_inS ?_ | with_reducible refine ed_itT ?_ | with_reducible refine ed_itL ?_ | with_reducible refine ed_tupL ?_ | with_reducible refine ed_tupT ?_ | with_reducible refine ed_listL ?_ | with_reducible refine ed_listT ?_ | with_reducible refine ed_neg ?_ | with_reducible refine ed_max ?_ | with_reducible refine ed_min ?_ | with_reducible refine ed_intB ?_
  | with_reducible refine ev_rng1 ?_ | with_reducible refine ev_rng2 ?_)
local macro_rules | `(tactic| walk_at "sd") => `(tactic| first | rfl | assumption | (simp only [decide_eq_true_eq, decide_eq_false_iff_not, Bool.not_eq_true', Bool.not_eq_false', Bool.and_eq_true, Bool.or_eq_true, List.length_map, List.length_cons, List.length_nil, List.length_append, List.length_range] at *; omega))
local macro_rules | `(tactic| walk_at "e2") => `(tactic| first
  | walk_at "e1" | with_reducible refine ⟨_, rfl, ?_⟩ | with_reducible refine ⟨_, _, rfl, ?_⟩
  | with_reducible refine And.intro (Eq.refl (List.length _)) ?_ | with_reducible refine And.intro (Nat.le_of_ble_eq_true (n := List.length _) rfl) ?_
  | with_reducible refine And.intro (Eq.refl (_ : Sx)) (?_ : Ed _ _)
  | ((with_reducible refine And.intro ?_ (And.intro ?_ (?_ : Ev _ _))); (· rfl); (· rfl))
  | ((with_reducible refine ed_ixTx ?_); refine ⟨_, by decide, rfl, ?_⟩) | ((with_reducible refine ed_ixLx ?_); refine ⟨_, by decide, rfl, ?_⟩) | ((with_reducible refine es_star ?_))
  | with_reducible refine an_tt ?_ | with_reducible refine an_ft ?_ | with_reducible refine an_tf ?_ | with_reducible refine an_ff ?_ | with_reducible refine an_ntt ?_ | with_reducible refine an_nft ?_ | with_reducible refine an_ntf ?_ | with_reducible refine an_nff ?_
  | ((with_reducible refine ed_dneSelf ?_)) | ((with_reducible refine ed_deqSelf ?_))
  | ((with_reducible refine ed_ixT ?_ ?_ ?_); (· decide); (· rfl)) | ((with_reducible refine ed_ixL ?_ ?_ ?_); (· decide); (· rfl)) | ((with_reducible refine ed_at ?_ ?_ ?_); (· decide); (· rfl))
  | ((with_reducible refine ed_modI ?_ ?_); (· first | decide | omega))
  | with_reducible exact gives_nx | ((with_reducible refine gives_rt ?_); (· rfl)) | ((with_reducible refine And.intro ?_ ?_); (· exact rfl); (· with_reducible exact Eq.refl (_ : Sx))))
local macro_rules | `(tactic| walk_at "e") => `(tactic| repeat walk_at "e2")
/-- begin a def's spec -/
local macro_rules | `(tactic| walk_at "i") => `(tactic| simp only [initS, List.map_cons, List.map_nil, List.length_cons, List.length_nil, Nat.reduceAdd, Nat.reduceSub, List.replicate, List.cons_append, List.nil_append])
/-- a known truth decides -/
local macro_rules | `(tactic| walk_at "t") => `(tactic| first | ((with_reducible refine split_t ?_ ?_); (· walk_at "sd")) | ((with_reducible refine split_t' ?_ ?_); (· walk_at "sd")))
local macro_rules | `(tactic| walk_at "f") => `(tactic| first | ((with_reducible refine split_f ?_ ?_); (· walk_at "sd")) | ((with_reducible refine split_f' ?_ ?_); (· walk_at "sd")))
/-- all that is seen in a look -/
local macro_rules | `(tactic| walk_at "v") => `(tactic| (rw [sealAll_mk (by (simp only [List.set_cons_zero, List.set_cons_succ, List.map_cons, List.map_nil, sealS_none, sealS_dat, sealS_scr, sealS_own, List.getElem?_cons_zero, List.getElem?_cons_succ, sealC_lst]; rfl)) (by (simp only [List.set_cons_zero, List.set_cons_succ, List.map_cons, List.map_nil]; rfl))]))

section
namespace Cn
/-! ### how great a number is -/
def Bd (k : Nat) (i : Int) : Prop := i.natAbs < 2 ^ k
theorem Bd.mono {a b : Nat} {i : Int} (h : Bd a i) (l : a ≤ b) : Bd b i := Nat.lt_of_lt_of_le h (Nat.pow_le_pow_right (by decide) l)
theorem Bd.log {a : Nat} {i : Int} (h : Bd a i) : i.natAbs.log2 ≤ a := by
  by_cases z : i.natAbs = 0
  · rw [z]; simp
  · exact Nat.le_of_lt ((Nat.log2_lt z).mpr h)
theorem Bd.cm {a b : Nat} {i j : Int} (h : Bd a i) (k : Bd b j) (l : a + b < 1000000) : L2.CMulW i j := by
  have := h.log
  have := k.log
  show i.natAbs.log2 + j.natAbs.log2 < 1000000
  omega
theorem Bd.mul {a b : Nat} {i j : Int} (h : Bd a i) (k : Bd b j) : Bd (a + b) (i * j) := by
  unfold Bd at *
  rw [Int.natAbs_mul, Nat.pow_add]
  exact Nat.mul_lt_mul'' h k
theorem Bd.add {a : Nat} {i j : Int} (h : Bd a i) (k : Bd a j) : Bd (a + 1) (i + j) := by
  unfold Bd at *
  have := Int.natAbs_add_le i j
  rw [Nat.pow_succ]
  omega
theorem Bd.neg {a : Nat} {i : Int} (h : Bd a i) : Bd a (-i) := by
  unfold Bd at *
  rw [Int.natAbs_neg]; exact h
theorem Bd.div {a : Nat} {i j : Int} (h : Bd a i) : Bd a (i / j) := Nat.lt_of_le_of_lt (Int.natAbs_ediv_le_natAbs i j) h
theorem Bd.one : Bd 1 1 := (show (1 : Int).natAbs < 2 ^ 1 by decide)
theorem Bd.of {k : Nat} {i : Int} (h : i.natAbs < 2 ^ k) : Bd k i := h
theorem small_up {a b : Int} (ha : -1000000000 ≤ a) (ha' : a ≤ 1000000000) (hb : -1000000000 ≤ b) (hb' : b ≤ 1000000000) : Builtin.Range.small a b 2 = true := by
  unfold Builtin.Range.small Builtin.Range.rangeSize
  simp only [Builtin.Range.rangeFitsLong, Bool.and_eq_true, Bool.or_eq_true, decide_eq_true_eq, beq_iff_eq, show ((2 : Int) > 0) by decide, if_true]
  split <;> omega
theorem size_up {a b : Int} : (Builtin.Range.rangeSize a b 2) = if a < b then (b - a - 1) / 2 + 1 else 0 := by
  unfold Builtin.Range.rangeSize
  simp only [show ((2 : Int) > 0) by decide, if_true]
/-! ### readings of the new rules -/
theorem ev_rng3 {S : Sx} {g : M (List D)} {L : List D → Sx → Prop} (h : Ev (g S) fun ds S1 => ∃ i j : Int, ds = [.int i, .int j, .int 2] ∧ -1000000000 ≤ i ∧ i ≤ 1000000000 ∧ -1000000000 ≤ j ∧ j ≤ 1000000000 ∧ sizeC i j 2 ≤ 16777216 ∧ L (rngC i 2 (sizeC i j 2)) S1) : Ev (gRng3 g S) L := by
  obtain ⟨ds, S1, e, i, j, rfl, h1, h2, h3, h4, h5, q⟩ := h
  refine ⟨_, _, ?_, q⟩
  unfold gRng3
  simp only [e, Option.bind_some]
  rw [if_pos ⟨by decide, by decide, h1, h2, h3, h4, small_up h1 h2 h3 h4, by rw [line_eq]; exact h5⟩]
theorem eo_augM {S : Sx} {i : Nat} {ge : M D} {Z : Out → Prop} (h : ∃ a : Int, S.sl[i]? = some (some (.dat (.int a))) ∧ Ev (ge S) fun d S1 => ∃ c : Int, d = .int c ∧ L2.CMulW a c ∧ Z (.nx ⟨S1.sl.set i (some (.dat (.int (a * c)))), S1.os⟩)) : Eo (qAugM i ge S) Z := by
  obtain ⟨a, h1, d, S1, e, c, rfl, h2, q⟩ := h
  refine ⟨_, ?_, q⟩
  have h2 : a.natAbs.log2 + c.natAbs.log2 < 1000000 := h2
  simp only [qAugM, h1, e, Option.bind_some, if_pos h2]
theorem eo_augIx {S : Sx} {i : Nat} {gk ge : M D} {Z : Out → Prop} (h : ∃ j cs0, S.sl[i]? = some (some (.own j)) ∧ S.os[j]? = some (some (.lst cs0)) ∧ Ev (gk S) fun d S1 => ∃ (k a : Int) (cs : List D), d = .int k ∧ S1.os[j]? = some (some (.lst cs)) ∧ 0 ≤ k ∧ cs[k.toNat]? = some (.int a) ∧
      Ev (ge S1) fun d2 S2 => ∃ (c : Int) (ds : List D), d2 = .int c ∧ S2.os[j]? = some (some (.lst ds)) ∧ k.toNat < ds.length ∧ Z (.nx ⟨S2.sl, S2.os.set j (some (.lst (ds.set k.toNat (.int (a + c)))))⟩)) : Eo (qAugIx i gk ge S) Z := by
  obtain ⟨j, cs0, h1, h2, d, S1, e1, k, a, cs, rfl, h3, h4, h5, d2, S2, e2, c, ds, rfl, h6, h7, q⟩ := h
  refine ⟨_, ?_, q⟩
  simp only [qAugIx, ownOf, h1, h2, Option.bind_some, e1, Fu.cellOf, h3, if_pos h4, h5, e2, h6, if_pos h7, setCell]
theorem ed_last {xs : List D} {d : D} {Q : D → Prop} (e : xs[xs.length - 1]? = some d) (q : Q d) : Ed (L2.atI xs (-1)) Q := by
  have hl := (List.getElem?_eq_some_iff.mp e).1
  refine ⟨d, ?_, q⟩
  unfold L2.atI L2.ixN
  rw [if_neg (by decide), if_pos (by omega), Option.bind_some, ← e]
  congr 1
  omega
theorem mem_rngC {i c : Int} {n k : Nat} {d : D} (h : (rngC i c n)[k]? = some d) : k < n ∧ d = .int (i + (k : Int) * c) := by
  unfold rngC at h
  rw [List.getElem?_map] at h
  obtain ⟨j, hj, rfl⟩ := Option.map_eq_some_iff.mp h
  have hk := (List.getElem?_eq_some_iff.mp hj).1
  rw [List.length_range] at hk
  rw [List.getElem?_range hk] at hj
  cases hj
  exact ⟨hk, rfl⟩
theorem mF_exC {n : Nat} {g : Sx → Option Out} {ds : List D} {P : D → Prop} (h : Eo (g ⟨initS n ds, []⟩) fun o => ∃ d S, o = .rt d S ∧ P d) : ∃ d, mF n g ds = some d ∧ P d := by
  obtain ⟨o, e, d, S, rfl, p⟩ := h
  exact ⟨d, by simp only [mF, e, Option.bind_some], p⟩
theorem x_all_paired {m : Int} (m0 : -1000000 ≤ m) (m1 : m ≤ 1600) : ∃ v : Int, m_all_paired [.int m] = some (.int v) ∧ Bd 20000 v := by
  have key : ∃ d, m_all_paired [.int m] = some d ∧ ∃ v : Int, d = .int v ∧ Bd 20000 v := by
    unfold m_all_paired; refine mF_exC ?_; walk_at "i"; unfold g_all_paired
    walk_at "e"
    refine ev_rng3 ?_
    walk_at "e"
    have hz : sizeC 1 m 2 ≤ 801 := by
      unfold sizeC
      rw [size_up]
      split <;> omega
    refine ⟨by decide, by decide, by omega, by omega, by omega, ?_⟩
    refine eo_loop (fun i S => ∃ x2 v, S = ⟨[some (.dat (.int m)), some (.dat (.int v)), x2], []⟩ ∧ Bd (11 * i + 1) v) ⟨_, _, rfl, Bd.one⟩ ?_ ?_
    · rintro i d S hd ⟨x2, v, rfl, hb⟩
      obtain ⟨hi, rfl⟩ := mem_rngC hd
      have h11 : Bd 11 (1 + (i : Int) * 2) := Bd.of (by show (1 + (i : Int) * 2).natAbs < 2048; omega)
      walk_at "e"
      refine eo_augM ⟨_, rfl, ?_⟩
      walk_at "e"
      refine ⟨hb.cm h11 (by omega), _, rfl, _, _, rfl, (hb.mul h11).mono (by omega)⟩
    · rintro S ⟨x2, v, rfl, hb⟩
      rw [rngC_len] at hb
      walk_at "e"
      exact hb.mono (by omega)
  obtain ⟨d, e, v, rfl, hb⟩ := key
  exact ⟨v, e, hb⟩
theorem x_within {s : Nat} (hs : s ≤ 40) : ∃ vs : List Int, m_within_company [.int (s : Int)] = some (.list (vs.map .int)) ∧ 1 ≤ vs.length ∧ vs.length ≤ 21 ∧ ∀ v ∈ vs, Bd 401 v := by
  have key : ∃ d, m_within_company [.int (s : Int)] = some d ∧ ∃ vs : List Int, d = .list (vs.map .int) ∧ 1 ≤ vs.length ∧ vs.length ≤ 21 ∧ ∀ v ∈ vs, Bd 401 v := by
    unfold m_within_company; refine mF_exC ?_; walk_at "i"; unfold g_within_company
    walk_at "e"
    refine ed_divI (Sp.divW ⟨by decide, by decide⟩) ?_
    walk_at "e"
    refine ⟨by decide, by decide, by omega, by omega, by omega, ?_⟩
    refine eo_loop (fun i S => ∃ x2 x3, ∃ vs : List Int, S = ⟨[some (.dat (.int (s : Int))), some (.own 0), x2, x3], [some (.lst (vs.map .int))]⟩ ∧ vs.length = i + 1 ∧ ∀ v ∈ vs, Bd (20 * i + 1) v) ⟨_, _, [1], rfl, rfl, fun v hv => by rw [List.mem_singleton.mp hv]; exact Bd.one⟩ ?_ ?_
    · rintro i d S hd ⟨x2, x3, vs, rfl, hl, hb⟩
      obtain ⟨hi, rfl⟩ := rng_at hd
      walk_at "e"
      have hi40 : i < 20 := by omega
      have h2 : Bd 2 2 := Bd.of (by decide)
      have h6 : Bd 6 (1 + (i : Int)) := Bd.of (by show (1 + (i : Int)).natAbs < 64; omega)
      refine ed_mulI (h2.cm h6 (by decide)) ?_
      walk_at "e"
      obtain ⟨v, hv⟩ : ∃ v, vs[vs.length - 1]? = some v := ⟨_, List.getElem?_eq_getElem (by omega)⟩
      have hbv := hb v (List.mem_of_getElem? hv)
      refine ev_app ⟨0, _, rfl, rfl, ?_⟩
      walk_at "e"
      refine ed_last (d := .int v) (by rw [List.length_map, List.getElem?_map, hv]; rfl) ?_
      walk_at "e"
      have b7 : Bd 7 ((s : Int) - 2 * (1 + (i : Int)) + 2) := Bd.of (by show ((s : Int) - 2 * (1 + (i : Int)) + 2).natAbs < 128; omega)
      have b8 : Bd 7 ((s : Int) - 2 * (1 + (i : Int)) + 2 - 1) := Bd.of (by show ((s : Int) - 2 * (1 + (i : Int)) + 2 - 1).natAbs < 128; omega)
      refine ed_mulI (hbv.neg.cm b7 (by omega)) ?_
      walk_at "e"
      refine ed_mulI ((hbv.neg.mul b7).cm b8 (by omega)) ?_
      walk_at "e"
      refine ed_divI (Sp.divW ⟨by decide, by decide⟩) ?_
      walk_at "e"
      refine ed_divI (Sp.divW ⟨by omega, by omega⟩) ?_
      refine ⟨_, rfl, by rw [List.length_map]; omega, ?_⟩
      refine ⟨_, rfl, _, _, vs ++ [_], by rw [List.map_append]; rfl, by rw [List.length_append, hl]; rfl, fun u hu => ?_⟩
      rcases List.mem_append.mp hu with hu | hu
      · exact (hb u hu).mono (by omega)
      · rw [List.mem_singleton.mp hu]
        exact (((hbv.neg.mul b7).mul b8).div.div).mono (by omega)
    · rintro S ⟨x2, x3, vs, rfl, hl, hb⟩
      rw [rng_len] at hl hb
      walk_at "e"
      trace_state
      exact ⟨by omega, by omega, fun v hv => (hb v hv).mono (by omega)⟩
  obtain ⟨d, e, vs, rfl, h⟩ := key
  exact ⟨vs, e, h⟩
end Cn
end

section
namespace Cn
theorem enum_at {xs : List Int} {k : Nat} {d : D} (h : (enumD 0 (xs.map PyData.int))[k]? = some d) : ∃ x, x ∈ xs ∧ k < xs.length ∧ d = .tuple [.int (k : Int), .int x] := by
  rw [enumD_at] at h
  obtain ⟨z, hz, rfl⟩ := Option.map_eq_some_iff.mp h
  rw [List.getElem?_map] at hz
  obtain ⟨x, hx, rfl⟩ := Option.map_eq_some_iff.mp hz
  exact ⟨x, List.mem_of_getElem? hx, (List.getElem?_eq_some_iff.mp hx).1, by rw [Nat.zero_add]⟩
theorem x_multiplied {A B : Nat} {xs ys : List Int} (a1 : 1 ≤ xs.length) (a2 : xs.length ≤ 801) (b1 : 1 ≤ ys.length) (b2 : ys.length ≤ 21) (hx : ∀ v ∈ xs, Bd A v) (hy : ∀ v ∈ ys, Bd B v) (hs : A + B < 1000000) :
    ∃ vs : List Int, m_multiplied [.list (xs.map .int), .list (ys.map .int)] = some (.list (vs.map .int)) ∧ vs.length = xs.length + ys.length - 1 ∧ ∀ v ∈ vs, Bd (A + B + xs.length * ys.length) v := by
  have key : ∃ d, m_multiplied [.list (xs.map .int), .list (ys.map .int)] = some d ∧ ∃ vs : List Int, d = .list (vs.map .int) ∧ vs.length = xs.length + ys.length - 1 ∧ ∀ v ∈ vs, Bd (A + B + xs.length * ys.length) v := by
    unfold m_multiplied; refine mF_exC ?_; walk_at "i"; unfold g_multiplied
    walk_at "e"
    refine ed_mulL (by rw [List.length_map, List.length_map]; omega) (by rw [List.length_map, List.length_map]; omega) (by simp only [List.length_map, List.length_cons, List.length_nil]; omega) ?_
    rw [rep_one]
    walk_at "e"
    refine ev_enum ?_
    walk_at "e"
    refine eo_loop (fun i S => ∃ x3 x4 x5 x6, ∃ vs : List Int, S = ⟨[some (.dat (.list (xs.map .int))), some (.dat (.list (ys.map .int))), some (.own 0), x3, x4, x5, x6], [some (.lst (vs.map .int))]⟩ ∧ vs.length = xs.length + ys.length - 1 ∧ ∀ v ∈ vs, Bd (A + B + i * ys.length) v) ?_ ?_ ?_
    · refine ⟨none, none, none, none, List.replicate (xs.length + ys.length - 1) 0, ?_, List.length_replicate, fun v hv => ?_⟩
      · rw [List.map_replicate]
        simp only [List.length_map]
        rw [show ((xs.length : Int) + (ys.length : Int) - 1).toNat = xs.length + ys.length - 1 by omega]
      · rw [(List.mem_replicate.mp hv).2]
        exact Bd.of (Nat.two_pow_pos _)
    · rintro i d S hd ⟨x3, x4, x5, x6, vs, rfl, hl, hb⟩
      obtain ⟨x, hx1, hi, rfl⟩ := enum_at hd
      walk_at "e"
      refine ev_enum ?_
      walk_at "e"
      refine eo_loop (fun j S => ∃ x5 x6, ∃ vs : List Int, S = ⟨[some (.dat (.list (xs.map .int))), some (.dat (.list (ys.map .int))), some (.own 0), some (.dat (.int (i : Int))), some (.dat (.int x)), x5, x6], [some (.lst (vs.map .int))]⟩ ∧ vs.length = xs.length + ys.length - 1 ∧ ∀ v ∈ vs, Bd (A + B + i * ys.length + j) v) ⟨_, _, vs, rfl, hl, hb⟩ ?_ ?_
      · rintro j d S hd ⟨x5, x6, vs, rfl, hl, hb⟩
        obtain ⟨y, hy1, hj, rfl⟩ := enum_at hd
        walk_at "e"
        refine eo_augIx ⟨0, _, rfl, rfl, ?_⟩
        walk_at "e"
        have hk : ((i : Int) + (j : Int)).toNat = i + j := by omega
        have hk2 : i + j < vs.length := by omega
        refine ⟨_, vs[i + j], vs.map .int, rfl, rfl, by omega, ?_, ?_⟩
        · rw [hk, List.getElem?_map, List.getElem?_eq_getElem hk2]; rfl
        walk_at "e"
        refine ed_mulI ((hx x hx1).cm (hy y hy1) hs) ?_
        refine ⟨_, vs.map .int, rfl, rfl, by rw [hk, List.length_map]; exact hk2, ?_⟩
        refine ⟨_, rfl, some (.dat (.int (j : Int))), some (.dat (.int y)), vs.set (i + j) (vs[i + j] + x * y), ?_, by rw [List.length_set]; exact hl, fun v hv => ?_⟩
        · rw [hk, ← List.map_set]; rfl
        · rcases List.mem_or_eq_of_mem_set hv with hv | hv
          · exact (hb v hv).mono (by omega)
          · rw [hv]
            exact ((hb _ (List.getElem_mem hk2)).add (((hx x hx1).mul (hy y hy1)).mono (by omega))).mono (by omega)
      · rintro S ⟨x5, x6, vs, rfl, hl, hb⟩
        rw [enumD_len, List.length_map] at hb
        refine ⟨_, rfl, _, _, _, _, vs, rfl, hl, fun v hv => (hb v hv).mono ?_⟩
        rw [Nat.add_mul]
        omega
    · rintro S ⟨x3, x4, x5, x6, vs, rfl, hl, hb⟩
      rw [enumD_len, List.length_map] at hb
      walk_at "e"
      exact ⟨hl, hb⟩
  obtain ⟨d, e, vs, rfl, h⟩ := key
  exact ⟨vs, e, h⟩
end Cn
end

section
namespace Cn
open Gr
def apI (m : Int) : Int := match m_all_paired [.int m] with
  | some (.int v) => v
  | _ => 0
theorem x_apI {m : Int} (m0 : -1000000 ≤ m) (m1 : m ≤ 1600) : m_all_paired [.int m] = some (.int (apI m)) ∧ Bd 20000 (apI m) := by
  obtain ⟨v, e, hb⟩ := x_all_paired m0 m1
  have : apI m = v := by simp only [apI, e]
  rw [this]
  exact ⟨e, hb⟩
theorem enum_ints : ∀ (vs : List Int) (n : Nat), enumD n (vs.map PyData.int) = (vs.zipIdx n).map fun p => .tuple [.int (p.2 : Int), .int p.1]
  | [], _ => rfl
  | v :: vs, n => by
    show .tuple [.int (n : Int), .int v] :: enumD (n + 1) (vs.map PyData.int) = _
    rw [enum_ints vs (n + 1)]
    rfl
theorem grp40 {ls : List Ln} {q : Int} {gs : List (List (Int × Int))} (hl : ls.length ≤ 20) (hp : gs.Perm ((grp ls (ends ls q)).map (·.2))) : gs.length ≤ 40 ∧ ∀ g ∈ gs, g.length ≤ 40 := by
  have hE : (ends ls q).length ≤ 40 := by
    have : (ends ls q).length ≤ (allE ls.length).length := List.length_filter_le _ _
    rw [allE_len] at this
    omega
  obtain ⟨l1, l2⟩ := (grpOk (f := cmpy ls) (ends ls q)).lens
  refine ⟨?_, fun g hg => ?_⟩
  · rw [hp.length_eq, List.length_map]
    exact Nat.le_trans l1 hE
  · obtain ⟨x, hx, rfl⟩ := List.mem_map.mp (hp.mem_iff.mp hg)
    exact Nat.le_trans (l2 x hx) hE
theorem sum_le {k : Nat} : ∀ ns : List Nat, (∀ n ∈ ns, n ≤ k) → ns.sum ≤ ns.length * k
  | [], _ => Nat.zero_le _
  | n :: ns, h => by
    have := sum_le ns fun m hm => h m (List.mem_cons_of_mem _ hm)
    have := h n List.mem_cons_self
    rw [List.sum_cons, List.length_cons, Nat.add_mul]
    omega
theorem x_plans_counted {w : D} {p q : Int} {ls : List Ln} (hw : Web w p ls) (hl : ls.length ≤ 20) (q0 : 0 ≤ q) (q1 : q < p) : ∃ v, m_plans_counted [w, .int q] = some v := by
  obtain ⟨gs, e, hp⟩ := x_by_companies hw (by omega) q0 q1
  obtain ⟨g1, g2⟩ := grp40 hl hp
  have key : ∃ d, m_plans_counted [w, .int q] = some d ∧ True := by
    unfold m_plans_counted; refine mF_exC ?_; walk_at "i"; unfold g_plans_counted
    walk_at "e"
    refine ev_lcX (xs := gs) (enc := fun g => .list (g.map en)) (b := fun _ => true) (g := fun g => .int (g.length : Int)) ?_
    walk_at "e"
    refine ev_callNY ?_
    walk_at "e"
    refine Ed.of e ?_
    walk_at "e"
    refine ⟨rfl, fun g hg => ?_, ?_⟩
    · walk_at "e"
      refine ⟨rfl, rfl, fun _ => ?_⟩
      walk_at "e"
      exact ⟨by rw [List.length_map], rfl⟩
    rw [filter_tt]
    have eN : (gs.map fun g => PyData.int (g.length : Int)) = ((gs.map List.length).map fun n : Nat => (n : Int)).map PyData.int := by
      rw [List.map_map, List.map_map]; rfl
    rw [eN]
    have hN1 : (gs.map List.length).length ≤ 40 := by rw [List.length_map]; exact g1
    have hN2 : ∀ n ∈ gs.map List.length, n ≤ 40 := fun n hn => by
      obtain ⟨g, hg, rfl⟩ := List.mem_map.mp hn
      exact g2 g hg
    generalize gs.map List.length = ns at hN1 hN2
    have hS := sum_le ns hN2
    have hsum : ((ns.map fun n : Nat => (n : Int)).sum) = (ns.sum : Int) := sum_cast ns
    walk_at "e"
    refine ed_sumI ?_
    rw [hsum]
    walk_at "e"
    refine ⟨fun _ => ?_, fun _ => ?_⟩
    · walk_at "e"
      trivial
    walk_at "e"
    refine eo_loop (fun i S => ∃ x5, ∃ vs : List Int, S = ⟨[some (.dat w), some (.dat (.int q)), some (.dat (.list ((ns.map fun n : Nat => (n : Int)).map PyData.int))), some (.dat (.int (ns.sum : Int))), some (.dat (.list (vs.map .int))), x5, none, none, none], []⟩ ∧ 1 ≤ vs.length ∧ vs.length ≤ 1 + 20 * i ∧ ∀ v ∈ vs, Bd (17300 * i + 1) v) ⟨none, [1], rfl, Nat.le_refl _, by simp, fun v hv => by rw [List.mem_singleton.mp hv]; exact Bd.one⟩ ?_ ?_
    · rintro i d S hd ⟨x5, vs, rfl, h1, h2, hb⟩
      rw [List.getElem?_map, List.getElem?_map] at hd
      obtain ⟨z, hz, rfl⟩ := Option.map_eq_some_iff.mp hd
      obtain ⟨n, hn, rfl⟩ := Option.map_eq_some_iff.mp hz
      have hi : i < 40 := by have := (List.getElem?_eq_some_iff.mp hn).1; omega
      obtain ⟨us, eu, u1, u2, u3⟩ := x_within (hN2 n (List.mem_of_getElem? hn))
      obtain ⟨ts, et, t1, t2⟩ := x_multiplied h1 (by omega) u1 u2 hb u3 (by omega)
      walk_at "e"
      refine Ed.of eu ?_
      walk_at "e"
      refine Ed.of et ?_
      walk_at "e"
      have hm : vs.length * us.length ≤ 801 * 21 := Nat.mul_le_mul (by omega) u2
      refine ⟨by omega, by omega, fun v hv => (t2 v hv).mono (by omega)⟩
    · rintro S ⟨x5, vs, rfl, h1, h2, hb⟩
      rw [List.length_map, List.length_map] at h2 hb
      walk_at "e"
      refine ev_lcX (xs := vs.zipIdx 0) (enc := fun p => .tuple [.int (p.2 : Int), .int p.1]) (b := fun _ => true) (g := fun p => .int (p.1 * apI ((ns.sum : Int) - 2 * (p.2 : Int)))) ?_
      refine ev_enum ?_
      walk_at "e"
      refine ⟨enum_ints vs 0, fun p hp => ?_, ?_⟩
      · have hp2 := List.mem_zipIdx hp
        have hv : p.1 ∈ vs := by rw [hp2.2.2]; exact List.getElem_mem _
        walk_at "e"
        refine ⟨rfl, rfl, fun _ => ?_⟩
        walk_at "e"
        refine ed_mulI (Sp.mulW ⟨by decide, by decide⟩ ⟨by omega, by omega⟩) ?_
        walk_at "e"
        obtain ⟨ea, hba⟩ := x_apI (m := (ns.sum : Int) - 2 * (p.2 : Int)) (by omega) (by omega)
        refine Ed.of ea ?_
        walk_at "e"
        refine ed_mulI ((hb _ hv).cm hba (by omega)) ?_
        walk_at "e"
      · rw [filter_tt]
        walk_at "e"
        rw [show ((vs.zipIdx 0).map fun p => PyData.int (p.1 * apI ((ns.sum : Int) - 2 * (p.2 : Int)))) = ((vs.zipIdx 0).map fun p => p.1 * apI ((ns.sum : Int) - 2 * (p.2 : Int))).map PyData.int from (by rw [List.map_map]; rfl)]
        refine ed_sumI ?_
        walk_at "e"
        trivial
  obtain ⟨d, e, _⟩ := key
  exact ⟨d, e⟩
end Cn
end

end Lw

set_option maxHeartbeats 4000000
namespace Lw
open PySem Fu
local macro_rules | `(tactic| walk_at "e1") => `(tactic| first
  | with_reducible refine eo_seq ?_ | (with_reducible refine then_nx' ?_; refine ⟨?_, ?_, ?_⟩; rotate_left; · (try dsimp only [List.set, List.length_cons, List.length_nil, List.cons_append, List.nil_append, Nat.zero_add, Nat.reduceAdd]); exact rfl) | with_reducible refine then_rt ?_ | with_reducible refine eo_if ?_ | with_reducible refine eo_ret ?_ | with_reducible refine eo_set ?_ | with_reducible refine eo_asg ?_ | with_reducible refine eo_drop ?_ | with_reducible refine eo_nx ?_ | with_reducible refine eo_par ?_ | with_reducible refine eo_own ?_ | with_reducible refine eo_retN ?_ | with_reducible refine eo_for ?_ | with_reducible refine eo_retO ?_
  | with_reducible refine ev_c ?_ | (with_reducible refine ev_var ?_; refine ⟨_, rfl, ?_⟩) | with_reducible refine ev_bin ?_ | with_reducible refine ev_un ?_ | with_reducible refine ev_nil ?_ | with_reducible refine ev_cons ?_
  | with_reducible refine ev_tup ?_ | with_reducible refine ev_lst ?_ | with_reducible refine ev_call ?_ | with_reducible refine ev_callF ?_ | with_reducible refine ev_isi ?_ | with_reducible refine ev_isi2 ?_ | with_reducible refine ev_andV ?_ | with_reducible refine ev_orV ?_ | with_reducible refine ev_notV ?_
  | with_reducible refine ev_B ?_ | with_reducible refine ev_and ?_ | with_reducible refine ev_or ?_ | with_reducible refine ev_not ?_ | with_reducible refine ev_yes ?_ | with_reducible refine ev_if ?_ | with_reducible refine ev_no ?_ | with_reducible refine ev_so ?_ | with_reducible refine ev_sl ?_ | with_reducible refine ev_items ?_
  | (with_reducible refine ev_ixO ?_; refine ⟨_, _, rfl, rfl, ?_⟩) | (with_reducible refine ev_varO ?_; refine ⟨_, _, rfl, rfl, ?_⟩) | (with_reducible refine ev_lenO ?_; refine ⟨_, _, rfl, rfl, ?_⟩) | (with_reducible refine ev_scrSl ?_; refine ⟨_, rfl, ?_⟩) | (with_reducible refine ev_scrLen ?_; refine ⟨_, rfl, ?_⟩) | (with_reducible refine ev_callScr ?_; refine ⟨_, rfl, ?_⟩) | (with_reducible refine ev_OL ?_; refine ⟨_, _, rfl, rfl, ?_⟩) | with_reducible refine ev_OR ?_ | with_reducible refine ev_rep ?_ | with_reducible refine ev_listRng1 ?_ | with_reducible refine eo_setO ?_
  | with_reducible refine es_name ?_ | with_reducible refine es_tup2 ?_ | with_reducible refine es_tup3 ?_
  | with_reducible refine ed_addI ?_ | with_reducible refine ed_subI ?_ | with_reducible refine ed_cmp ?_ | with_reducible refine ed_eqI ?_ | with_reducible refine ed_neI ?_ | with_reducible refine ed_slT ?_ | with_reducible refine ed_slL ?_ | with_reducible refine ed_lenT ?_ | with_reducible refine ed_lenL ?_ | with_reducible refine ed_lenS ?_ | with_reducible refine ed_inS ?_ | with_reducible refine ed_itT ?_ | with_reducible refine ed_itL ?_ | with_reducible refine ed_tupL ?_ | with_reducible refine ed_tupT ?_ | with_reducible refine ed_listL ?_ | with_reducible refine ed_listT ?_ | with_reducible refine ed_neg ?_ | with_reducible refine ed_max ?_ | with_reducible refine ed_min ?_ | with_reducible refine ed_intB ?_)
local macro_rules | `(tactic| walk_at "e2") => `(tactic| first
  | walk_at "e1" | with_reducible refine ⟨_, rfl, ?_⟩ | with_reducible refine ⟨_, _, rfl, ?_⟩
  | with_reducible refine And.intro (Eq.refl (List.length _)) ?_ | with_reducible refine And.intro (Nat.le_of_ble_eq_true (n := List.length _) rfl) ?_
  | with_reducible refine And.intro (Eq.refl (_ : Sx)) (?_ : Ed _ _)
  | with_reducible exact gives_nx | with_reducible (refine gives_rt ?_; rfl))
local macro_rules | `(tactic| walk_at "e") => `(tactic| repeat walk_at "e2")
/-- begin a def's spec -/
local macro_rules | `(tactic| walk_at "i") => `(tactic| simp only [initS, List.map_cons, List.map_nil, List.length_cons, List.length_nil, Nat.reduceAdd, Nat.reduceSub, List.replicate, List.cons_append, List.nil_append])

section
namespace Rl
/-! ### the reel -/
def iLs (xs : List Int) : List D := xs.map PyData.int
structure Reel (b : Nat) (cs : List D) : Prop where
  ex : ∃ (great cells : List Int) (n stir : Int), cs = [.list (iLs great), .list (iLs cells), .int n, .int stir] ∧ (∀ g ∈ great, 0 ≤ g) ∧ great.length ≤ 63 ∧ 0 < cells.length ∧ cells.length ≤ 64 ∧ (∀ c ∈ cells, 0 ≤ c ∧ c < 1000003) ∧ 0 ≤ n ∧ n + b ≤ 10000000000000000000000000000000 ∧ 0 ≤ stir ∧ stir < 170141183460469231731687303715884105728
theorem Reel.mono {a b : Nat} {cs : List D} (h : Reel a cs) (l : b ≤ a) : Reel b cs := by
  obtain ⟨g, c, n, s, h1, h2, h3, h4, h5, h6, h7, h8, h9⟩ := h
  exact ⟨g, c, n, s, h1, h2, h3, h4, h5, h6, h7, by omega, h9⟩
theorem mulW {i j : Int} (a : -170141183460469231731687303715884105728 < i ∧ i < 170141183460469231731687303715884105728) (b : -170141183460469231731687303715884105728 < j ∧ j < 170141183460469231731687303715884105728) : L2.CMulW i j := Sp.mulW a b
theorem divW {i j : Int} (a : 0 < j ∧ j < 170141183460469231731687303715884105728) : L2.CDivW i j := Sp.divW a
theorem good_iLs (xs : List Int) : Good 1 (.list (iLs xs)) := good_list fun d hd => by
  obtain ⟨i, _, rfl⟩ := List.mem_map.mp hd
  exact good_int i
theorem x_draw {b : Nat} {cs : List D} {many : Int} (h : Reel (b + 1) cs) (m0 : 0 < many) (m1 : many ≤ 10000000000000000000000000000000) : ∃ d cs', m__law_draw cs [.int many] = some (d, cs') ∧ ∃ v, d = .int v ∧ 0 ≤ v ∧ v < many ∧ Reel b cs' := by
  obtain ⟨great, cells, n, stir, rfl, hg, hgl, hc0, hcl, hc, n0, n1, s0, s1⟩ := h
  unfold m__law_draw; refine mIO_of ?_; walk_at "i"; unfold g__law_draw
  walk_at "e"
  refine ed_at (by decide) rfl ?_
  walk_at "e"
  refine Ed.of (dNe_good (good_iLs great) (good_list_le (n := 1) (m := 0) (ds := []) (fun _ h => nomatch h) (by decide))) ?_
  walk_at "e"
  cases great with
  | cons g gs =>
    refine split_t (by simp [iLs]) ?_
    walk_at "e"
    refine ed_at (by decide) rfl ?_
    walk_at "e"
    refine ed_ixL (by decide) rfl ?_
    walk_at "e"
    refine ed_divI (divW ⟨m0, by omega⟩) ?_
    walk_at "e"
    refine ed_repB (Nat.le_of_ble_eq_true rfl) ?_
    walk_at "e"
    refine ed_at (by decide) rfl ?_
    walk_at "e"
    rw [cut_from (by decide)]
    have hlen : ((if (decide (many ≤ g)) = true then [PyData.int (g / many)] else [])).length ≤ 1 := by split <;> simp
    refine ed_addL (by
      have : gs.length ≤ 62 := by simpa using hgl
      simp only [iLs, List.map_cons, List.length_drop, List.length_cons, List.length_map] at hlen ⊢
      omega) ?_
    walk_at "e"
    refine ⟨0, _, rfl, rfl, ?_⟩
    walk_at "e"
    refine ⟨rfl, 0, rfl, by simp, ?_⟩
    walk_at "e"
    refine ed_modI m0 ?_
    refine ⟨_, rfl, _, rfl, Int.emod_nonneg _ (by omega), Int.emod_lt_of_pos _ m0, ?_⟩
    have hg0 := hg g List.mem_cons_self
    have hq : 0 ≤ g / many := Int.ediv_nonneg hg0 (by omega)
    refine ⟨(if (decide (many ≤ g)) = true then [g / many] else []) ++ gs, cells, n, stir, ?_, ?_, ?_, hc0, hcl, hc, n0, by omega, s0, s1⟩
    · simp only [List.set_cons_zero, iLs, List.map_append]
      congr 3
      split <;> simp
    · intro x hx
      rcases List.mem_append.mp hx with hx | hx
      · split at hx
        · rw [List.mem_singleton.mp hx]; exact hq
        · exact nomatch hx
      · exact hg x (List.mem_cons_of_mem _ hx)
    · have : gs.length ≤ 62 := by simpa using hgl
      have h2 : ((if (decide (many ≤ g)) = true then [g / many] else [])).length ≤ 1 := by split <;> simp
      rw [List.length_append]; omega
  | nil =>
    refine split_f (by simp [iLs]) ?_
    walk_at "e"
    refine ed_at (by decide) rfl ?_
    walk_at "e"
    refine ⟨0, _, rfl, rfl, ?_⟩
    walk_at "e"
    refine ⟨rfl, 2, rfl, by simp, ?_⟩
    walk_at "e"
    refine ed_at (by decide) rfl ?_
    walk_at "e"
    refine ed_at (by decide) rfl ?_
    walk_at "e"
    refine ed_at (by decide) rfl ?_
    walk_at "e"
    have hc0' : (0 : Int) < ((iLs cells).length : Int) := by simp [iLs]; omega
    refine ed_modI hc0' ?_
    have hi0 := Int.emod_nonneg (n + 1) (show ((iLs cells).length : Int) ≠ 0 by omega)
    have hi1 := Int.emod_lt_of_pos (n + 1) hc0'
    have hcl2 : (iLs cells).length = cells.length := by simp [iLs]
    have hk : ((n + 1) % ((iLs cells).length : Int)).toNat < cells.length := by omega
    have hm := hc _ (List.getElem_mem hk)
    refine ed_ixL hi0 (by
      unfold iLs
      rw [List.getElem?_map, show (List.map PyData.int cells).length = (iLs cells).length from rfl, List.getElem?_eq_getElem hk]; rfl) ?_
    generalize hv : cells[((n + 1) % ((iLs cells).length : Int)).toNat] = told at hm ⊢
    walk_at "e"
    refine ed_at (by decide) rfl ?_
    walk_at "e"
    refine ed_at (by decide) rfl ?_
    walk_at "e"
    refine ed_mulI (mulW ⟨by omega, s1⟩ ⟨by omega, s1⟩) ?_
    walk_at "e"
    refine ed_mulI (mulW ⟨by omega, by omega⟩ ⟨by decide, by decide⟩) ?_
    walk_at "e"
    refine ed_at (by decide) rfl ?_
    walk_at "e"
    refine ed_mulI (mulW ⟨by omega, by omega⟩ ⟨by decide, by decide⟩) ?_
    walk_at "e"
    refine ed_powI (by decide) ?_
    walk_at "e"
    refine ed_powI (by decide) ?_
    refine ed_mulI (by decide) ?_
    walk_at "e"
    refine ed_modI (by decide) ?_
    refine ⟨0, _, rfl, rfl, ?_⟩
    walk_at "e"
    refine ⟨rfl, 3, rfl, by simp, ?_⟩
    walk_at "e"
    refine ed_at (by decide) rfl ?_
    walk_at "e"
    refine ed_powI (by decide) ?_
    refine ed_divI (divW ⟨by decide, by decide⟩) ?_
    walk_at "e"
    refine ed_modI m0 ?_
    refine ⟨_, rfl, _, rfl, Int.emod_nonneg _ (by omega), Int.emod_lt_of_pos _ m0, ?_⟩
    refine ⟨[], cells, n + 1, _, rfl, (fun _ h => nomatch h), by simp, hc0, hcl, hc, by omega, by omega, Int.emod_nonneg _ (by decide), ?_⟩
    refine Int.lt_of_lt_of_le (Int.emod_lt_of_pos _ (by decide)) (by decide)
theorem x_reel {ns : List Int} (h : ns.length ≤ 63) : ∃ cs, m__law_reel ns = some cs ∧ Reel 4294967296 cs := by
  unfold m__law_reel; refine mScrN_of ?_; walk_at "i"; unfold g__law_reel
  walk_at "e"
  refine ed_powI (by decide) ?_
  walk_at "e"
  rw [cut_to (by decide), List.take_of_length_le (by simpa using h)]
  refine eo_loop (fun i S => ∃ st x, S = ⟨[some (.scr ns), some (.dat (.int st)), x, none], []⟩ ∧ 0 ≤ st ∧ st < 170141183460469231731687303715884105727) ⟨_, _, rfl, by decide, by decide⟩ ?_ ?_
  · rintro i d S hd ⟨st, x, rfl, h0, h1⟩
    obtain ⟨c, hc, rfl⟩ := List.mem_map.mp (List.mem_of_getElem? hd)
    walk_at "e"
    refine ed_mulI (mulW ⟨by omega, by omega⟩ ⟨by omega, by omega⟩) ?_
    walk_at "e"
    refine ed_modI (by decide) ?_
    walk_at "e"
    refine ed_powI (by decide) ?_
    walk_at "e"
    refine ed_powI (by decide) ?_
    refine ed_mulI (by decide) ?_
    walk_at "e"
    refine ed_modI (by decide) ?_
    refine ⟨_, rfl, _, _, rfl, Int.emod_nonneg _ (by decide), Int.lt_of_lt_of_le (Int.emod_lt_of_pos _ (by decide)) (by decide)⟩
  · rintro S ⟨st, x, rfl, h0, h1⟩
    walk_at "e"
    refine ev_lc (fun d => match d with | .int i => decide (1000000000000000000 ≤ i) | _ => false) (fun d => match d with | .int i => .int (i - 1000000000000000000) | d => d) ?_
    walk_at "e"
    rw [cut_to (by decide), List.take_of_length_le (by simpa using h)]
    refine ⟨fun d hd => ?_, ?_⟩
    · obtain ⟨c, hc, rfl⟩ := List.mem_map.mp hd
      walk_at "e"
      refine ⟨rfl, rfl, ?_⟩
      walk_at "e"
      refine ed_powI (by decide) ?_
      walk_at "e"
      refine ⟨rfl, rfl, fun _ => ?_⟩
      walk_at "e"
      refine ed_powI (by decide) ?_
      walk_at "e"
      exact ⟨rfl, rfl⟩
    · walk_at "e"
      refine ev_map (fun d => match d with | .int i => .int (i % 1000003) | d => d) ?_
      walk_at "e"
      rw [cut_to (by decide), List.take_of_length_le (by simpa using h)]
      refine ⟨fun d hd => ?_, ?_⟩
      · obtain ⟨c, hc, rfl⟩ := List.mem_map.mp hd
        walk_at "e"
        refine ⟨rfl, rfl, ?_⟩
        walk_at "e"
        refine ed_modI (by decide) ?_
        exact ⟨rfl, rfl⟩
      · walk_at "e"
        refine ed_addL (by simp; omega) ?_
        walk_at "e"
        refine ⟨_, _, _, rfl, rfl, ?_⟩
        refine ⟨(ns.filter fun i => decide (1000000000000000000 ≤ i)).map (· - 1000000000000000000), ns.map (· % 1000003) ++ [41], 0, st, ?_, ?_, ?_, by simp, by simp; omega, ?_, by decide, by decide, h0, by omega⟩
        · congr 2
          · unfold iLs
            rw [List.filter_map, List.map_map, List.map_map]
            rfl
          · congr 2
            unfold iLs
            rw [List.map_append, List.map_map, List.map_map]
            rfl
        · intro g hg
          obtain ⟨i, hi, rfl⟩ := List.mem_map.mp hg
          have := of_decide_eq_true (List.mem_filter.mp hi).2
          omega
        · rw [List.length_map]
          exact Nat.le_trans (List.length_filter_le _ _) h
        · intro c hc
          rcases List.mem_append.mp hc with hc | hc
          · obtain ⟨i, hi, rfl⟩ := List.mem_map.mp hc
            exact ⟨Int.emod_nonneg _ (by decide), Int.emod_lt_of_pos _ (by decide)⟩
          · rw [List.mem_singleton.mp hc]; exact ⟨by decide, by decide⟩
theorem ev_drawL {sl : List (Option R)} {os : List (Option Cell)} {i : Nat} {g : M (List D)} {Q : D → Sx → Prop}
    (h : ∃ j, sl[i]? = some (some (.own j)) ∧ Ev (g ⟨sl, os⟩) fun ds S1 => ∃ cs many c, S1.os[j]? = some (some (.lst cs)) ∧ ds = [.int many] ∧ Reel c cs ∧ 1 ≤ c ∧ 0 < many ∧ many ≤ 10000000000000000000000000000000 ∧ ∀ v cs', 0 ≤ v → v < many → Reel (c - 1) cs' → Q (.int v) ⟨S1.sl, S1.os.set j (some (.lst cs'))⟩) : Ev (gIO i 1 m__law_draw g ⟨sl, os⟩) Q := by
  obtain ⟨j, hi, h⟩ := h
  refine ev_IO ⟨j, hi, h.mono ?_⟩
  rintro ds S1 ⟨cs, many, c, hc, rfl, hR, c1, m0, m1, h⟩
  obtain ⟨d, cs', e, v, rfl, v0, v1, hR'⟩ := x_draw (b := c - 1) (hR.mono (by omega)) m0 m1
  exact ⟨cs, hc, rfl, _, cs', e, h v cs' v0 v1 hR'⟩
end Rl
end

end Lw

set_option maxHeartbeats 4000000
namespace Lw
open PySem Fu
local macro_rules | `(tactic| walk_at "e1") => `(tactic| first
  | with_reducible refine eo_seq ?_ | (with_reducible refine then_nx' ?_; refine ⟨?_, ?_, ?_⟩; rotate_left; · (try dsimp only [List.set, List.length_cons, List.length_nil, List.cons_append, List.nil_append, Nat.zero_add, Nat.reduceAdd]); exact rfl) | with_reducible refine then_rt ?_ | with_reducible refine eo_if ?_ | with_reducible refine eo_ret ?_ | with_reducible refine eo_set ?_ | with_reducible refine eo_asg ?_ | with_reducible refine eo_drop ?_ | with_reducible refine eo_nx ?_ | with_reducible refine eo_par ?_ | with_reducible refine eo_own ?_ | with_reducible refine eo_retN ?_ | with_reducible refine eo_for ?_ | with_reducible refine eo_retO ?_
  | with_reducible refine ev_c ?_ | (with_reducible refine ev_var ?_; refine ⟨_, rfl, ?_⟩) | with_reducible refine ev_bin ?_ | with_reducible refine ev_un ?_ | with_reducible refine ev_nil ?_ | with_reducible refine ev_cons ?_
  | with_reducible refine ev_tup ?_ | with_reducible refine ev_lst ?_ | with_reducible refine ev_call ?_ | with_reducible refine ev_callF ?_ | with_reducible refine ev_isi ?_ | with_reducible refine ev_isi2 ?_ | with_reducible refine ev_andV ?_ | with_reducible refine ev_orV ?_ | with_reducible refine ev_notV ?_
  | with_reducible refine ev_B ?_ | with_reducible refine ev_and ?_ | with_reducible refine ev_or ?_ | with_reducible refine ev_not ?_ | with_reducible refine ev_yes ?_ | with_reducible refine ev_if ?_ | with_reducible refine ev_no ?_ | with_reducible refine ev_so ?_ | with_reducible refine ev_sl ?_ | with_reducible refine ev_items ?_
  | (with_reducible refine ev_ixO ?_; refine ⟨_, _, rfl, rfl, ?_⟩) | (with_reducible refine ev_varO ?_; refine ⟨_, _, rfl, rfl, ?_⟩) | (with_reducible refine ev_lenO ?_; refine ⟨_, _, rfl, rfl, ?_⟩) | (with_reducible refine ev_scrSl ?_; refine ⟨_, rfl, ?_⟩) | (with_reducible refine ev_scrLen ?_; refine ⟨_, rfl, ?_⟩) | (with_reducible refine ev_callScr ?_; refine ⟨_, rfl, ?_⟩) | (with_reducible refine ev_OL ?_; refine ⟨_, _, rfl, rfl, ?_⟩) | with_reducible refine ev_OR ?_ | with_reducible refine ev_rep ?_ | with_reducible refine ev_listRng1 ?_ | with_reducible refine eo_setO ?_
  | with_reducible refine es_name ?_ | with_reducible refine es_tup2 ?_ | with_reducible refine es_tup3 ?_
  | with_reducible refine ed_addI ?_ | with_reducible refine ed_subI ?_ | with_reducible refine ed_cmp ?_ | with_reducible refine ed_eqI ?_ | with_reducible refine ed_neI ?_ | with_reducible refine ed_slT ?_ | with_reducible refine ed_slL ?_ | with_reducible refine ed_lenT ?_ | with_reducible refine ed_lenL ?_ | with_reducible refine ed_lenS ?_ | with_reducible refine ed_inS ?_ | with_reducible refine ed_itT ?_ | with_reducible refine ed_itL ?_ | with_reducible refine ed_tupL ?_ | with_reducible refine ed_tupT ?_ | with_reducible refine ed_listL ?_ | with_reducible refine ed_listT ?_ | with_reducible refine ed_neg ?_ | with_reducible refine ed_max ?_ | with_reducible refine ed_min ?_ | with_reducible refine ed_intB ?_
  | with_reducible refine ev_rng1 ?_ | with_reducible refine ev_rng2 ?_)
local macro_rules | `(tactic| walk_at "sd") => `(tactic| first | rfl | assumption | (simp only [decide_eq_true_eq, decide_eq_false_iff_not, Bool.not_eq_true', Bool.not_eq_false', Bool.and_eq_true, Bool.or_eq_true, List.length_map, List.length_cons, List.length_nil, List.length_append, List.length_range] at *; omega))
local macro_rules | `(tactic| walk_at "e2") => `(tactic| first
  | walk_at "e1" | with_reducible refine ⟨_, rfl, ?_⟩ | with_reducible refine ⟨_, _, rfl, ?_⟩
  | with_reducible refine And.intro (Eq.refl (List.length _)) ?_ | with_reducible refine And.intro (Nat.le_of_ble_eq_true (n := List.length _) rfl) ?_
  | with_reducible refine And.intro (Eq.refl (_ : Sx)) (?_ : Ed _ _)
  | ((with_reducible refine And.intro ?_ (And.intro ?_ (?_ : Ev _ _))); (· rfl); (· rfl))
  | ((with_reducible refine ed_ixT ?_ ?_ ?_); (· decide); (· rfl)) | ((with_reducible refine ed_ixL ?_ ?_ ?_); (· decide); (· rfl)) | ((with_reducible refine ed_at ?_ ?_ ?_); (· decide); (· rfl))
  | ((with_reducible refine ed_modI ?_ ?_); (· first | decide | omega))
  | with_reducible exact gives_nx | ((with_reducible refine gives_rt ?_); (· rfl)) | ((with_reducible refine And.intro ?_ ?_); (· exact rfl); (· with_reducible exact Eq.refl (_ : Sx))))
local macro_rules | `(tactic| walk_at "e") => `(tactic| repeat walk_at "e2")
/-- begin a def's spec -/
local macro_rules | `(tactic| walk_at "i") => `(tactic| simp only [initS, List.map_cons, List.map_nil, List.length_cons, List.length_nil, Nat.reduceAdd, Nat.reduceSub, List.replicate, List.cons_append, List.nil_append])
/-- a known truth decides -/
local macro_rules | `(tactic| walk_at "t") => `(tactic| first | ((with_reducible refine split_t ?_ ?_); (· walk_at "sd")) | ((with_reducible refine split_t' ?_ ?_); (· walk_at "sd")))
local macro_rules | `(tactic| walk_at "f") => `(tactic| first | ((with_reducible refine split_f ?_ ?_); (· walk_at "sd")) | ((with_reducible refine split_f' ?_ ?_); (· walk_at "sd")))
/-- all that is seen in a look -/
local macro_rules | `(tactic| walk_at "v") => `(tactic| (rw [sealAll_mk (by (simp only [List.set_cons_zero, List.set_cons_succ, List.map_cons, List.map_nil, sealS_none, sealS_dat, sealS_scr, sealS_own, List.getElem?_cons_zero, List.getElem?_cons_succ, sealC_lst]; rfl)) (by (simp only [List.set_cons_zero, List.set_cons_succ, List.map_cons, List.map_nil]; rfl))]))

section
namespace Rl
theorem some_letters {x : Str} {l : List Nat} (e : x.cps.toList = l) (h0 : 0 < l.length) (h1 : l.length ≤ 26) (h : ∀ c ∈ l, Let c) : Sp.Letters x := Sp.letters_few e h0 h1 h
/-! ### lists or tuples all through -/
theorem x_dr_leaf {n : Nat} {cs : List D} {d : D} (h : isT "tuple" d = false) : m__law_dressed (n + 1) cs [d] = some (d, cs) := by
  have : ∃ d' cs', m__law_dressed (n + 1) cs [d] = some (d', cs') ∧ (d' = d ∧ cs' = cs) := by
    show ∃ d' cs', mIO 4 (g__law_dressed (m__law_dressed n)) cs [d] = _ ∧ _
    refine mIO_of ?_; walk_at "i"; unfold g__law_dressed
    walk_at "e"
    rw [h]
    walk_at "e"
    refine split_f rfl ?_
    walk_at "e"
    exact ⟨_, rfl, rfl, rfl⟩
  obtain ⟨_, _, e, rfl, rfl⟩ := this
  exact e
def Each2 {α β : Type} (P : α → β → Prop) (xs : List α) (ys : List β) : Prop := ys.length = xs.length ∧ ∀ (i : Nat) x y, xs[i]? = some x → ys[i]? = some y → P x y
theorem x_dr_tup {n k c : Nat} {cs ds : List D} {P : D → D → Prop} (hk : ∀ d ∈ ds, ∀ c cs, Reel c cs → k ≤ c → ∃ d' cs', m__law_dressed n cs [d] = some (d', cs') ∧ P d d' ∧ Reel (c - k) cs') (hR : Reel c cs) (hc : k * ds.length + 1 ≤ c) :
    ∃ d' cs', m__law_dressed (n + 1) cs [.tuple ds] = some (d', cs') ∧ ∃ es, Sq d' es ∧ Each2 P ds es ∧ Reel (c - (k * ds.length + 1)) cs' := by
  show ∃ d' cs', mIO 4 (g__law_dressed (m__law_dressed n)) cs [.tuple ds] = _ ∧ _
  refine mIO_of ?_; walk_at "i"; unfold g__law_dressed
  walk_at "e"
  refine split_t rfl ?_
  walk_at "e"
  refine ev_lcA (fun acc os => ∃ cs, os = [some (.lst cs)] ∧ Reel (c - k * acc.length) cs ∧ ∀ (i : Nat) x y, ds[i]? = some x → acc[i]? = some y → P x y) ?_
  walk_at "e"
  refine ⟨⟨_, rfl, by simpa using hR, fun i x y _ h => by simp at h⟩, fun i d acc os hd ha ⟨cs, e, hR, hP⟩ => ?_, fun acc os ha ⟨cs, e, hR, hP⟩ => ?_⟩
  · subst e
    walk_at "e"
    refine ev_IO ⟨_, rfl, ?_⟩
    walk_at "e"
    have hi := (List.getElem?_eq_some_iff.mp hd).1
    have hm : k * (i + 1) ≤ k * ds.length := Nat.mul_le_mul_left k hi
    rw [Nat.mul_add, Nat.mul_one] at hm
    obtain ⟨d', cs', e, hp, hR⟩ := hk d (List.mem_of_getElem? hd) _ _ hR (by rw [ha]; omega)
    refine ⟨_, _, e, ?_⟩
    refine ⟨rfl, _, rfl, hR.mono ?_, fun j x y hx hy => ?_⟩
    · rw [List.length_append, List.length_singleton, Nat.mul_add]; omega
    · rw [List.getElem?_append] at hy
      split at hy
      · exact hP j x y hx hy
      · rename_i hj
        have : j = acc.length := by
          have := (List.getElem?_eq_some_iff.mp hy).1
          simp at this; omega
        subst this
        rw [ha, hd] at hx
        simp at hy
        cases hx; cases hy
        exact hp
  · subst e
    walk_at "e"
    refine ev_drawL ⟨_, rfl, ?_⟩
    walk_at "e"
    rw [ha] at hR
    refine ⟨_, _, _, rfl, rfl, hR, by omega, by decide, by decide, fun v cs' v0 v1 hR => ?_⟩
    walk_at "e"
    refine ⟨fun ht => ?_, fun ht => ?_⟩
    · walk_at "e"
      exact ⟨_, rfl, acc, sq_l _, ⟨ha, hP⟩, hR.mono (by omega)⟩
    · walk_at "e"
      exact ⟨_, rfl, acc, sq_t _, ⟨ha, hP⟩, hR.mono (by omega)⟩
theorem each2_map {α : Type} {f : α → D} {P : D → D → Prop} {xs : List α} {es : List D} (h : Each2 P (xs.map f) es) : ∃ ps : List (D × α), ps.map (·.1) = es ∧ ps.map (·.2) = xs ∧ ∀ q ∈ ps, P (f q.2) q.1 := by
  obtain ⟨hl, hp⟩ := h
  rw [List.length_map] at hl
  refine ⟨es.zip xs, List.map_fst_zip (by omega), List.map_snd_zip (by omega), fun q hq => ?_⟩
  obtain ⟨i, hi, rfl⟩ := List.mem_iff_getElem.mp hq
  rw [List.length_zip] at hi
  rw [List.getElem_zip]
  exact hp i _ _ (by rw [List.getElem?_map, List.getElem?_eq_getElem (show i < xs.length by omega)]; rfl) (List.getElem?_eq_getElem (show i < es.length by omega))
theorem each2_eq : ∀ {xs ys : List D}, Each2 (fun x y => y = x) xs ys → ys = xs := by
  intro xs ys ⟨hl, hp⟩
  apply List.ext_getElem hl
  intro i h1 h2
  exact hp i _ _ (List.getElem?_eq_getElem h2) (List.getElem?_eq_getElem h1)
theorem x_dr_leaf' {n c : Nat} {cs : List D} {d : D} (h : isT "tuple" d = false) (hR : Reel c cs) : ∃ d' cs', m__law_dressed (n + 1) cs [d] = some (d', cs') ∧ d' = d ∧ Reel (c - 0) cs' := ⟨_, _, x_dr_leaf h, rfl, hR⟩
theorem x_dr_line {n c : Nat} {cs : List D} {l : Ln} (hR : Reel c cs) (hc : 1 ≤ c) : ∃ d' cs', m__law_dressed (n + 2) cs [ln l] = some (d', cs') ∧ IsLn d' l ∧ Reel (c - 1) cs' := by
  obtain ⟨d', cs', e, es, s, h2, hR⟩ := x_dr_tup (n := n + 1) (k := 0) (P := fun x y => y = x) (ds := [.int l.1, .int l.2.1, ch l.2.2]) (fun d hd c cs hR _ => by
    simp only [List.mem_cons, List.not_mem_nil, or_false] at hd
    rcases hd with rfl | rfl | rfl <;> exact x_dr_leaf' rfl hR) hR (by omega)
  rw [each2_eq h2] at s
  exact ⟨d', cs', e, s, hR.mono (by omega)⟩
theorem x__law_dressed {n c : Nat} {cs : List D} {p : Int} {ls : List Ln} (hR : Reel c cs) (hc : 2 * (ls.length + 1) + 1 ≤ c) : ∃ d' cs', m__law_dressed (n + 4) cs [wb p ls] = some (d', cs') ∧ Web d' p ls ∧ Reel (c - (2 * (ls.length + 1) + 1)) cs' := by
  obtain ⟨d', cs', e, es, s, h2, hR⟩ := x_dr_tup (n := n + 3) (k := ls.length + 1) (P := fun x y => (x = .int p → y = .int p) ∧ (x = .tuple (ls.map ln) → Lns y ls)) (ds := [.int p, .tuple (ls.map ln)]) (fun d hd c cs hR hc => by
    simp only [List.mem_cons, List.not_mem_nil, or_false] at hd
    rcases hd with rfl | rfl
    · exact ⟨_, _, x_dr_leaf rfl, ⟨fun _ => rfl, (fun z => nomatch z)⟩, hR.mono (by omega)⟩
    · obtain ⟨d', cs', e, es, s, h2, hR⟩ := x_dr_tup (n := n + 2) (k := 1) (P := fun x y => ∀ l, x = ln l → IsLn y l) (ds := ls.map ln) (fun d hd c cs hR hc => by
        obtain ⟨l, hl, rfl⟩ := List.mem_map.mp hd
        obtain ⟨d', cs', e, h, hR⟩ := x_dr_line (n := n) (l := l) hR hc
        exact ⟨d', cs', e, fun l2 e2 => ln_inj e2 ▸ h, hR⟩) hR (by rw [List.length_map]; omega)
      obtain ⟨ps, rfl, e3, h3⟩ := each2_map h2
      exact ⟨d', cs', e, ⟨(fun z => nomatch z), fun _ => ⟨ps, s, e3.symm, fun q hq => h3 q hq _ rfl⟩⟩, hR.mono (by rw [List.length_map]; omega)⟩) hR (by simp only [List.length_cons, List.length_nil]; omega)
  obtain ⟨hl, hp⟩ := h2
  have : ∃ a b, es = [a, b] := by
    match es, hl with
    | [a, b], _ => exact ⟨a, b, rfl⟩
  obtain ⟨a, b, rfl⟩ := this
  refine ⟨d', cs', e, ⟨b, ?_, (hp 1 _ _ rfl rfl).2 rfl⟩, hR.mono (by simp only [List.length_cons, List.length_nil]; omega)⟩
  rw [(hp 0 _ _ rfl rfl).1 rfl] at s
  exact s
end Rl
end

section
namespace Rl
open Bg
end Rl
end

end Lw

set_option maxHeartbeats 4000000
namespace Lw
open PySem Fu
local macro_rules | `(tactic| walk_at "e1") => `(tactic| first
  | with_reducible refine eo_seq ?_ | (with_reducible refine then_nx' ?_; refine ⟨?_, ?_, ?_⟩; rotate_left; · (try dsimp only [List.set, List.length_cons, List.length_nil, List.cons_append, List.nil_append, Nat.zero_add, Nat.reduceAdd]); exact rfl) | with_reducible refine then_rt ?_ | with_reducible refine eo_if ?_ | with_reducible refine eo_ret ?_ | with_reducible refine eo_set ?_ | with_reducible refine eo_asg ?_ | with_reducible refine eo_drop ?_ | with_reducible refine eo_nx ?_ | with_reducible refine eo_par ?_ | with_reducible refine eo_own ?_ | with_reducible refine eo_retN ?_ | with_reducible refine eo_for ?_ | with_reducible refine eo_retO ?_
  | with_reducible refine ev_c ?_ | (with_reducible refine ev_var ?_; refine ⟨_, rfl, ?_⟩) | with_reducible refine ev_bin ?_ | with_reducible refine ev_un ?_ | with_reducible refine ev_nil ?_ | with_reducible refine ev_cons ?_
  | with_reducible refine ev_tup ?_ | with_reducible refine ev_lst ?_ | with_reducible refine ev_call ?_ | with_reducible refine ev_callF ?_ | with_reducible refine ev_isi ?_ | with_reducible refine ev_isi2 ?_ | with_reducible refine ev_andV ?_ | with_reducible refine ev_orV ?_ | with_reducible refine ev_notV ?_
  | with_reducible refine ev_B ?_ | with_reducible refine ev_and ?_ | with_reducible refine ev_or ?_ | with_reducible refine ev_not ?_ | with_reducible refine ev_yes ?_ | with_reducible refine ev_if ?_ | with_reducible refine ev_no ?_ | with_reducible refine ev_so ?_ | with_reducible refine ev_sl ?_ | with_reducible refine ev_items ?_
  | (with_reducible refine ev_ixO ?_; refine ⟨_, _, rfl, rfl, ?_⟩) | (with_reducible refine ev_varO ?_; refine ⟨_, _, rfl, rfl, ?_⟩) | (with_reducible refine ev_lenO ?_; refine ⟨_, _, rfl, rfl, ?_⟩) | (with_reducible refine ev_scrSl ?_; refine ⟨_, rfl, ?_⟩) | (with_reducible refine ev_scrLen ?_; refine ⟨_, rfl, ?_⟩) | (with_reducible refine ev_callScr ?_; refine ⟨_, rfl, ?_⟩) | (with_reducible refine ev_OL ?_; refine ⟨_, _, rfl, rfl, ?_⟩) | with_reducible refine ev_OR ?_ | with_reducible refine ev_rep ?_ | with_reducible refine ev_listRng1 ?_ | with_reducible refine eo_setO ?_
  | with_reducible refine es_name ?_ | with_reducible refine es_tup2 ?_ | with_reducible refine es_tup3 ?_
  | with_reducible refine ed_addI ?_ | with_reducible refine ed_subI ?_ | with_reducible refine ed_cmp ?_ | with_reducible refine ed_eqI ?_ | with_reducible refine ed_neI ?_ | with_reducible refine ed_slT ?_ | with_reducible refine ed_slL ?_ | with_reducible refine ed_lenT ?_ | with_reducible refine ed_lenL ?_ | with_reducible refine ed_lenS ?_ | with_reducible refine ed_inS ?_ | with_reducible refine ed_itT ?_ | with_reducible refine ed_itL ?_ | with_reducible refine ed_tupL ?_ | with_reducible refine ed_tupT ?_ | with_reducible refine ed_listL ?_ | with_reducible refine ed_listT ?_ | with_reducible refine ed_neg ?_ | with_reducible refine ed_max ?_ | with_reducible refine ed_min ?_ | with_reducible refine ed_intB ?_
  | with_reducible refine ev_rng1 ?_ | with_reducible refine ev_rng2 ?_)
local macro_rules | `(tactic| walk_at "sd") => `(tactic| first | rfl | assumption | (simp only [decide_eq_true_eq, decide_eq_false_iff_not, Bool.not_eq_true', Bool.not_eq_false', Bool.and_eq_true, Bool.or_eq_true, List.length_map, List.length_cons, List.length_nil, List.length_append, List.length_range] at *; omega))
local macro_rules | `(tactic| walk_at "e2") => `(tactic| first
  | walk_at "e1" | with_reducible refine ⟨_, rfl, ?_⟩ | with_reducible refine ⟨_, _, rfl, ?_⟩
  | with_reducible refine And.intro (Eq.refl (List.length _)) ?_ | with_reducible refine And.intro (Nat.le_of_ble_eq_true (n := List.length _) rfl) ?_
  | with_reducible refine And.intro (Eq.refl (_ : Sx)) (?_ : Ed _ _)
  | ((with_reducible refine And.intro ?_ (And.intro ?_ (?_ : Ev _ _))); (· rfl); (· rfl))
  | ((with_reducible refine ed_ixTx ?_); refine ⟨_, by decide, rfl, ?_⟩) | ((with_reducible refine ed_ixLx ?_); refine ⟨_, by decide, rfl, ?_⟩) | ((with_reducible refine es_star ?_))
  | with_reducible refine an_tt ?_ | with_reducible refine an_ft ?_ | with_reducible refine an_tf ?_ | with_reducible refine an_ff ?_ | with_reducible refine an_ntt ?_ | with_reducible refine an_nft ?_ | with_reducible refine an_ntf ?_ | with_reducible refine an_nff ?_
  | ((with_reducible refine ed_dneSelf ?_)) | ((with_reducible refine ed_deqSelf ?_))
  | ((with_reducible refine ed_ixT ?_ ?_ ?_); (· decide); (· rfl)) | ((with_reducible refine ed_ixL ?_ ?_ ?_); (· decide); (· rfl)) | ((with_reducible refine ed_at ?_ ?_ ?_); (· decide); (· rfl))
  | ((with_reducible refine ed_modI ?_ ?_); (· first | decide | omega))
  | with_reducible exact gives_nx | ((with_reducible refine gives_rt ?_); (· rfl)) | ((with_reducible refine And.intro ?_ ?_); (· exact rfl); (· with_reducible exact Eq.refl (_ : Sx))))
local macro_rules | `(tactic| walk_at "e") => `(tactic| repeat walk_at "e2")
/-- begin a def's spec -/
local macro_rules | `(tactic| walk_at "i") => `(tactic| simp only [initS, List.map_cons, List.map_nil, List.length_cons, List.length_nil, Nat.reduceAdd, Nat.reduceSub, List.replicate, List.cons_append, List.nil_append])
/-- a known truth decides -/
local macro_rules | `(tactic| walk_at "t") => `(tactic| first | ((with_reducible refine split_t ?_ ?_); (· walk_at "sd")) | ((with_reducible refine split_t' ?_ ?_); (· walk_at "sd")))
local macro_rules | `(tactic| walk_at "f") => `(tactic| first | ((with_reducible refine split_f ?_ ?_); (· walk_at "sd")) | ((with_reducible refine split_f' ?_ ?_); (· walk_at "sd")))
/-- all that is seen in a look -/
local macro_rules | `(tactic| walk_at "v") => `(tactic| (rw [sealAll_mk (by (simp only [List.set_cons_zero, List.set_cons_succ, List.map_cons, List.map_nil, sealS_none, sealS_dat, sealS_scr, sealS_own, List.getElem?_cons_zero, List.getElem?_cons_succ, sealC_lst]; rfl)) (by (simp only [List.set_cons_zero, List.set_cons_succ, List.map_cons, List.map_nil]; rfl))]))

section
/-! ### a plan: the groups, the greatest first, laid in a row and folded -/
namespace Pn
section
variable {α : Type} {f : α → Nat} {gs : List (List α)}
theorem unlike (h1 : ∀ g ∈ gs, ∃ c, ∀ x ∈ g, f x = c) (h2 : gs.Pairwise fun g h => ∀ x ∈ g, ∀ y ∈ h, f x ≠ f y) (h3 : gs.Pairwise fun g h => h.length ≤ g.length) {w half : Nat} (hn : gs.flatten.length = w + 2 * half)
    (hm : ∀ g ∈ gs, 2 * g.length ≤ gs.flatten.length + w) (hw : w ≤ 1 ∨ ∃ g ∈ gs, 2 * g.length = gs.flatten.length + w) {i : Nat} (hi : i < half) {x y : α} (hx : gs.flatten[w + i]? = some x) (hy : gs.flatten[w + (half + i)]? = some y) : f x ≠ f y := by
  intro he
  obtain ⟨g, hg, hxg⟩ := List.mem_flatten.mp (List.mem_of_getElem? hx)
  obtain ⟨X, Y, rfl⟩ := List.append_of_mem hg
  obtain ⟨c, hc⟩ := h1 g hg
  have e1 : (X ++ g :: Y).flatten = X.flatten ++ (g ++ Y.flatten) := by simp
  obtain ⟨q1, q2, q3⟩ := List.pairwise_append.mp h2
  obtain ⟨r1, r2, r3⟩ := List.pairwise_append.mp h3
  obtain ⟨q4, _⟩ := List.pairwise_cons.mp q2
  have sa : X.flatten.length ≤ w + i := by
    rcases Nat.lt_or_ge (w + i) X.flatten.length with z | z
    · rw [e1, List.getElem?_append_left z] at hx
      obtain ⟨h, hh, hxh⟩ := List.mem_flatten.mp (List.mem_of_getElem? hx)
      exact absurd rfl (q3 h hh g List.mem_cons_self x hxh x hxg)
    · exact z
  have sb : w + (half + i) < X.flatten.length + g.length := by
    rcases Nat.lt_or_ge (w + (half + i)) (X.flatten.length + g.length) with z | z
    · exact z
    · rw [e1, List.getElem?_append_right (by omega), List.getElem?_append_right (by omega)] at hy
      obtain ⟨h, hh, hyh⟩ := List.mem_flatten.mp (List.mem_of_getElem? hy)
      exact absurd he (q4 h hh x hxg y hyh)
  have hL : half + 1 ≤ g.length := by omega
  have hnl : (X ++ g :: Y).flatten.length = X.flatten.length + (g.length + Y.flatten.length) := by rw [e1, List.length_append, List.length_append]
  cases X with
  | nil =>
    have := hm g hg
    simp only [List.flatten_nil, List.length_nil] at sa sb hnl
    omega
  | cons f0 X =>
    have l0 : g.length ≤ f0.length := r3 f0 List.mem_cons_self g List.mem_cons_self
    have s0 : f0.length ≤ (f0 :: X).flatten.length := by rw [List.flatten_cons, List.length_append]; omega
    rcases hw with hw | ⟨g0, hg0, e0⟩
    · omega
    · have l1 : g0.length ≤ f0.length := by
        rcases List.mem_append.mp hg0 with z | z
        · rcases List.mem_cons.mp z with z | z
          · rw [z]; exact Nat.le_refl _
          · exact (List.pairwise_cons.mp r1).1 g0 z
        · exact r3 f0 List.mem_cons_self g0 z
      omega
end
end Pn
/-! ### the groups in their order -/
namespace Gr
def srtG (ls : List Ln) (q : Int) : List (List (Int × Int)) := ((grp ls (ends ls q)).map (·.2)).mergeSort fun a b => PySem.W.dataLe false keyG (a.map en) (b.map en)
theorem srtG_perm (ls : List Ln) (q : Int) : (srtG ls q).Perm ((grp ls (ends ls q)).map (·.2)) := List.mergeSort_perm _ _
end Gr
end

section
open Gr Pn
namespace Gr
theorem ends_nodup (ls : List Ln) (q : Int) : (ends ls q).Nodup := by
  unfold ends
  refine List.Nodup.sublist List.filter_sublist ?_
  rw [← allE_range]
  refine List.pairwise_map.mpr (List.nodup_range.imp fun {a b} h z => h ?_)
  have q1 := congrArg Prod.fst z
  have q2 := congrArg Prod.snd z
  simp only at q1 q2
  omega
theorem srtG_mem {ls : List Ln} {q : Int} {g : List (Int × Int)} (h : g ∈ srtG ls q) : ∃ c, g = (ends ls q).filter (fun e => decide (cmpy ls e = c)) ∧ g ≠ [] := by
  obtain ⟨x, hx, rfl⟩ := List.mem_map.mp ((srtG_perm ls q).mem_iff.mp h)
  obtain ⟨f1, f2⟩ := (grpOk (f := cmpy ls) (ends ls q)).fl x hx
  exact ⟨x.1, f1, f2⟩
theorem srtG_apart (ls : List Ln) (q : Int) : (srtG ls q).Pairwise fun g h => ∀ x ∈ g, ∀ y ∈ h, cmpy ls x ≠ cmpy ls y := by
  have ok := grpOk (f := cmpy ls) (ends ls q)
  refine ((srtG_perm ls q).pairwise_iff (fun {a b} h x hx y hy z => h y hy x hx z.symm)).mpr ?_
  refine List.pairwise_map.mpr ?_
  have nd := List.pairwise_map.mp ok.nd
  refine nd.imp_of_mem fun {a b} ha hb hne x hx y hy z => hne ?_
  have f1 := (ok.fl a ha).1
  have f2 := (ok.fl b hb).1
  rw [f1] at hx
  rw [f2] at hy
  have e1 := of_decide_eq_true (List.mem_filter.mp hx).2
  have e2 := of_decide_eq_true (List.mem_filter.mp hy).2
  rw [← e1, ← e2, z]
def rowG (ls : List Ln) (q : Int) : List (Int × Int) := (srtG ls q).flatten
theorem rowG_perm (ls : List Ln) (q : Int) : (rowG ls q).Perm (ends ls q) := by
  have ok := grpOk (f := cmpy ls) (ends ls q)
  refine (List.perm_ext_iff_of_nodup ?_ (ends_nodup ls q)).mpr fun e => ⟨fun he => ?_, fun he => ?_⟩
  · refine List.pairwise_flatten.mpr ⟨fun g hg => ?_, (srtG_apart ls q).imp fun {a b} h x hx y hy z => h x hx y hy (by rw [z])⟩
    obtain ⟨c, rfl, _⟩ := srtG_mem hg
    exact (ends_nodup ls q).sublist List.filter_sublist
  · obtain ⟨g, hg, h⟩ := List.mem_flatten.mp he
    obtain ⟨c, rfl, _⟩ := srtG_mem hg
    exact (List.mem_filter.mp h).1
  · obtain ⟨x, hx, hk⟩ := List.mem_map.mp (ok.all e he)
    refine List.mem_flatten.mpr ⟨x.2, (srtG_perm ls q).mem_iff.mpr (List.mem_map.mpr ⟨x, hx, rfl⟩), ?_⟩
    rw [(ok.fl x hx).1]
    exact List.mem_filter.mpr ⟨he, decide_eq_true hk.symm⟩
/-- what is left alone, the rest, folded -/
def wN (ls : List Ln) (q : Int) : Nat := (wnt ls q).toNat
def aloneG (ls : List Ln) (q : Int) : List (Int × Int) := (rowG ls q).take (wN ls q)
def restG (ls : List Ln) (q : Int) : List (Int × Int) := (rowG ls q).drop (wN ls q)
def halfG (ls : List Ln) (q : Int) : Nat := (restG ls q).length / 2
def pairsG (ls : List Ln) (q : Int) : List ((Int × Int) × (Int × Int)) := ((restG ls q).take (halfG ls q)).zip ((restG ls q).drop (halfG ls q))
theorem lens_sum (gs : List (List (Int × Int))) : (gs.map fun g => (g.length : Int)).sum = (gs.flatten.length : Int) := by
  induction gs with
  | nil => rfl
  | cons g gs ih => rw [List.map_cons, List.sum_cons, ih, List.flatten_cons, List.length_append]; omega
theorem want_facts (ls : List Ln) (q : Int) : 0 ≤ wnt ls q ∧ (rowG ls q).length = wN ls q + 2 * halfG ls q ∧ (restG ls q).length = 2 * halfG ls q ∧ (∀ g ∈ srtG ls q, 2 * g.length ≤ (rowG ls q).length + wN ls q) ∧ (wN ls q ≤ 1 ∨ ∃ g ∈ srtG ls q, 2 * g.length = (rowG ls q).length + wN ls q) := by
  have e := wantI_wnt (srtG_perm ls q)
  unfold wantI at e
  rw [lens_sum] at e
  obtain ⟨a1, a2, a3⟩ := fm_spec (((srtG ls q).flatten.length : Int) % 2) (((srtG ls q).map fun g => (g.length : Int)).map fun n => 2 * n - ((srtG ls q).flatten.length : Int))
  rw [e] at a1 a2 a3
  have hrow : (rowG ls q).length = (srtG ls q).flatten.length := rfl
  rw [← hrow] at a1 a2 a3
  have w0 : 0 ≤ wnt ls q := Int.le_trans (Int.emod_nonneg _ (by decide)) a1
  have hle : ∀ g ∈ srtG ls q, g.length ≤ (rowG ls q).length := fun g hg => (List.sublist_flatten_of_mem hg).length_le
  have a3 : wnt ls q = ((rowG ls q).length : Int) % 2 ∨ ∃ g ∈ srtG ls q, wnt ls q = 2 * (g.length : Int) - ((rowG ls q).length : Int) := by
    rcases a3 with z | z
    · exact .inl z
    · obtain ⟨n, hn, e1⟩ := List.mem_map.mp z
      obtain ⟨g, hg, rfl⟩ := List.mem_map.mp hn
      exact .inr ⟨g, hg, e1.symm⟩
  have a2 : ∀ g ∈ srtG ls q, 2 * (g.length : Int) - ((rowG ls q).length : Int) ≤ wnt ls q := fun g hg => a2 _ (List.mem_map.mpr ⟨_, List.mem_map.mpr ⟨g, hg, rfl⟩, rfl⟩)
  have hwn : ((wN ls q : Nat) : Int) = wnt ls q := Int.toNat_of_nonneg w0
  have hr : (restG ls q).length = (rowG ls q).length - wN ls q := by unfold restG; rw [List.length_drop]
  have hev : (restG ls q).length = 2 * halfG ls q ∧ wN ls q ≤ (rowG ls q).length := by
    unfold halfG
    rw [hr]
    rcases a3 with z | ⟨g, hg, z⟩
    · omega
    · have := hle g hg
      omega
  refine ⟨w0, by have := hev.1; omega, hev.1, fun g hg => by have := a2 g hg; omega, ?_⟩
  rcases a3 with z | ⟨g, hg, z⟩
  · left; omega
  · right; exact ⟨g, hg, by omega⟩
end Gr
end

section
open Gr Pn
namespace Gr
theorem ev_sortV2 {G : Es2} {sl : List (Option R)} {Q : D → Sx → Prop} (h2 : sl[2]? = some (some (.own 0))) (hz : G.length ≤ 1000)
    (q : Q (.list (((G.map (·.2)).mergeSort fun a b => PySem.W.dataLe false keyG (a.map en) (b.map en)).map fun g => .list (g.map en))) (wiped ⟨sl, cellsG G⟩)) : Ev (gSortV 2 ⟨sl, cellsG G⟩) Q := by
  have hg : grpsOf ⟨sl, cellsG G⟩ (kvsG 1 G) = some (G.map fun g => g.2.map en) := grps_cells fun i g hi => by
    unfold Fu.cellOf cellsG
    simp only
    rw [Nat.add_comm 1 i, List.getElem?_cons_succ, List.getElem?_map, hi]
    rfl
  have so : sortOk ((G.map fun g => g.2.map en).map keyG) = true := by
    have := sortOk_keys (G.map (·.2))
    rw [List.map_map] at this ⊢
    rw [List.map_map] at this
    exact this
  have hl : (G.map fun g => g.2.map en).length ≤ sizeLine := by
    rw [List.length_map]
    have : (1000 : Nat) < sizeLine := by decide
    omega
  have e0 : (cellsG G)[0]? = some (some (.dR (kvsG 1 G))) := rfl
  refine ⟨_, _, ?_, q⟩
  unfold gSortV
  simp only [h2, e0, hg, Option.bind_some, so, true_and, if_pos hl]
  congr 3
  unfold sortG
  have := List.map_mergeSort (s := PySem.W.dataLe false keyG) (r := fun a b : List (Int × Int) => PySem.W.dataLe false keyG (a.map en) (b.map en)) (f := fun g : List (Int × Int) => g.map en) (l := G.map (·.2)) (fun a _ b _ => rfl)
  rw [List.map_map] at this
  rw [show (G.map fun g => g.2.map en) = G.map ((fun g : List (Int × Int) => g.map en) ∘ fun x => x.2) from rfl, ← this, List.map_map]
  rfl
theorem x_by_companies2 {w : D} {p q : Int} {ls : List Ln} (hw : Web w p ls) (hl : ls.length ≤ 400) (q0 : 0 ≤ q) (q1 : q < p) :
    m_by_companies_N [w, .int q] = some ((srtG ls q).map fun g => .list (g.map en)) := by
  have hE : (ends ls q).length ≤ 800 := by
    have : (ends ls q).length ≤ (allE ls.length).length := List.length_filter_le _ _
    rw [allE_len] at this
    omega
  suffices h : Eo (g_by_companies_N ⟨initS 4 [w, .int q], []⟩) fun o => ∃ j S, o = .ro j S ∧ Fu.cellOf S j = some ((srtG ls q).map fun g => .list (g.map en)) by
    obtain ⟨o, e, j, S, rfl, h1⟩ := h
    unfold m_by_companies_N mN
    rw [e]
    exact h1
  walk_at "i"; unfold g_by_companies_N
  refine eo_seq ⟨_, rfl, ?_⟩
  refine then_nx' ⟨⟨[some (.dat w), some (.dat (.int q)), some (.own 0), none], cellsG []⟩, rfl, ?_⟩
  refine eo_seq ?_
  refine eo_for ?_
  walk_at "e"
  refine Ed.of (x_ends_at hw (by omega) q0 q1) ?_
  walk_at "e"
  refine eo_loopX (xs := ends ls q) (enc := en) (fun i S => ∃ x3, S = ⟨[some (.dat w), some (.dat (.int q)), some (.own 0), x3], cellsG (((ends ls q).take i).foldl (fun G e => addG G (cmpy ls e) e) [])⟩) ⟨none, rfl⟩ ?_ ?_
  · rintro i e S hx ⟨x3, rfl⟩
    have he : e ∈ ends ls q := List.mem_of_getElem? hx
    have ok := grpOk (f := cmpy ls) ((ends ls q).take i)
    have hi : ((ends ls q).take i).length ≤ 800 := by rw [List.length_take]; omega
    obtain ⟨l1, l2⟩ := ok.lens
    walk_at "e"
    refine ev_setd (c := cmpy ls e) (e := e) rfl rfl (Nat.le_trans (Nat.le_trans l1 hi) (by decide)) (fun g hg => Nat.le_trans (Nat.le_trans (l2 g hg) hi) (by decide)) ?_ ?_
    · walk_at "e"
      refine Ed.of (x_company_of hw (isEn_en e) (ends_mem.mp he).1) ?_
      exact ⟨rfl, rfl⟩
    · refine ⟨_, rfl, some (.dat (en e)), ?_⟩
      rw [List.take_add_one, hx]
      simp only [Option.toList_some, List.foldl_append, List.foldl_cons, List.foldl_nil]
      rfl
  · rintro S' ⟨x3, rfl⟩
    rw [List.take_length]
    refine then_nx' ⟨_, rfl, ?_⟩
    refine eo_retO ?_
    have ok := grpOk (f := cmpy ls) (ends ls q)
    have hgl : List.length (grp ls (ends ls q)) ≤ (ends ls q).length := ok.lens.1
    refine ev_sortV2 (G := grp ls (ends ls q)) rfl (by omega) ?_
    refine ⟨_, rfl, _, _, rfl, ?_⟩
    unfold Fu.cellOf
    simp
    rfl
end Gr
end

section
open Gr Pn
namespace Gr
def Er {α : Type} (x : Option (α × Sx)) (P : α → Sx → Prop) : Prop := ∃ r S, x = some (r, S) ∧ P r S
theorem eo_retR {g : Sx → Option (R × Sx)} {S : Sx} {Z : Out → Prop} (h : Er (g S) fun r S1 => Z (.rs r S1)) : Eo (qRetR g S) Z := by
  obtain ⟨r, S1, e, q⟩ := h
  exact ⟨_, by unfold qRetR; rw [e]; rfl, q⟩
theorem er_new {g : M D} {S : Sx} {P : R → Sx → Prop} (h : Ev (g S) fun d S1 => ∃ ds, d = .list ds ∧ P (.own S1.os.length) ⟨S1.sl, S1.os ++ [some (.lst ds)]⟩) : Er (rNew g S) P := by
  obtain ⟨d, S1, e, ds, rfl, q⟩ := h
  exact ⟨_, _, by unfold rNew; rw [e]; rfl, q⟩
theorem er_own {i j : Nat} {S : Sx} {P : R → Sx → Prop} (h : S.sl[i]? = some (some (.own j))) (q : P (.own j) S) : Er (rOwn i S) P := ⟨_, _, by unfold rOwn; rw [h], q⟩
theorem er_tup2 {ga gb : Sx → Option (R × Sx)} {S : Sx} {P : R → Sx → Prop} (h : Er (ga S) fun r S1 => Er (gb S1) fun r2 S2 => P (.tup [r, r2]) S2) : Er (rTup2 ga gb S) P := by
  obtain ⟨r, S1, e1, r2, S2, e2, q⟩ := h
  exact ⟨_, _, by unfold rTup2; rw [e1]; simp only [Option.bind_some, e2], q⟩
theorem ev_listZip {gs : M (List D)} {S : Sx} {Q : D → Sx → Prop} (h : Ev (gs S) fun ds S1 => ∃ xs ys, ds = [.list xs, .list ys] ∧ Q (.list (zipD xs ys)) S1) : Ev (gListZip gs S) Q := by
  obtain ⟨ds, S1, e, xs, ys, rfl, q⟩ := h
  exact ⟨_, _, by unfold gListZip; rw [e]; rfl, q⟩
theorem ev_newL {g : M D} {S : Sx} {Q : D → Sx → Prop} (h : Ev (g S) fun d S1 => ∃ ds, d = .list ds ∧ Q (.list ds) S1) : Ev (gNewL g S) Q := by
  obtain ⟨d, S1, e, ds, rfl, q⟩ := h
  exact ⟨_, _, by unfold gNewL; rw [e]; rfl, q⟩
theorem mN2_of {n : Nat} {g : Sx → Option Out} {ds : List D} {zs us : List D} (h : Eo (g ⟨initS n ds, []⟩) fun o => ∃ i j S, o = .rs (.tup [.own i, .own j]) S ∧ i ≠ j ∧ S.os[i]? = some (some (.lst zs)) ∧ S.os[j]? = some (some (.lst us))) : mN2 n g ds = some (zs, us) := by
  obtain ⟨o, e, i, j, S, rfl, hij, h1, h2⟩ := h
  unfold mN2
  simp only [e, Option.bind_some, if_neg hij, Fu.cellOf, h1, h2]
def prD (p : (Int × Int) × (Int × Int)) : D := .tuple [en p.1, en p.2]
theorem zip_prD : ∀ xs ys : List (Int × Int), zipD (xs.map en) (ys.map en) = (xs.zip ys).map prD
  | x :: xs, y :: ys => by
    show .tuple [en x, en y] :: zipD (xs.map en) (ys.map en) = _
    rw [zip_prD xs ys]; rfl
  | [], _ => by simp [zipD]
  | _ :: _, [] => by simp [zipD]
theorem x_plan_at_N2 {w : D} {p q : Int} {ls : List Ln} (hw : Web w p ls) (hl : ls.length ≤ 400) (q0 : 0 ≤ q) (q1 : q < p) : m_plan_at_N2 [w, .int q] = some ((pairsG ls q).map prD, (aloneG ls q).map en) := by
  have e := x_by_companies2 hw hl q0 q1
  have hp := srtG_perm ls q
  obtain ⟨g1, g2⟩ := grp_len hl hp
  obtain ⟨w0, f1, f2, _⟩ := want_facts ls q
  have hrl : (rowG ls q).length ≤ 800 := by
    rw [(rowG_perm ls q).length_eq]
    have : (ends ls q).length ≤ (allE ls.length).length := List.length_filter_le _ _
    rw [allE_len] at this
    omega
  unfold m_plan_at_N2; refine mN2_of ?_; walk_at "i"; unfold g_plan_at_N2
  walk_at "e"
  refine ev_callNY ?_
  walk_at "e"
  refine Ed.of e ?_
  walk_at "e"
  refine ev_lcX (xs := srtG ls q) (enc := fun g => .list (g.map en)) (b := fun _ => true) (g := fun g => .int (g.length : Int)) ?_
  walk_at "e"
  refine ⟨rfl, fun g hg => ?_, ?_⟩
  · walk_at "e"
    refine ⟨rfl, rfl, fun _ => ?_⟩
    walk_at "e"
    exact ⟨by rw [List.length_map], rfl⟩
  rw [filter_tt]
  walk_at "e"
  have hn := x_want_of (ns := (srtG ls q).map fun g => (g.length : Int)) (by rw [List.length_map]; omega) fun n hn => by
    obtain ⟨g, hg, rfl⟩ := List.mem_map.mp hn
    have := g2 g hg
    omega
  rw [List.map_map, wantI_wnt hp] at hn
  refine Ed.of hn ?_
  walk_at "e"
  refine ev_lc2X (xs := srtG ls q) (enc := fun g => .list (g.map en)) (b := fun _ => true) (es := fun g => g) (enc1 := fun _ e => en e) (b1 := fun _ _ => true) (f := fun _ e => en e) (by decide) ?_
  walk_at "e"
  refine ⟨rfl, fun g hg => ?_, ?_, ?_⟩
  · walk_at "e"
    refine ⟨rfl, rfl, fun _ => ?_⟩
    walk_at "e"
    refine ⟨⟨rfl, rfl⟩, fun e _ => ?_⟩
    walk_at "e"
    refine ⟨rfl, rfl, fun _ => ?_⟩
    walk_at "e"
  · simp only [filter_tt]
    have : ((srtG ls q).flatMap fun g => g.map en) = (rowG ls q).map en := by unfold rowG; rw [List.map_flatten, List.flatMap_def]
    rw [this, List.length_map]
    omega
  have erow : (((srtG ls q).filter fun _ => true).flatMap fun g => (g.filter fun _ => true).map fun e => en e) = (rowG ls q).map en := by
    simp only [filter_tt]
    unfold rowG; rw [List.map_flatten, List.flatMap_def]
  rw [erow]
  walk_at "e"
  refine ev_newL ?_
  walk_at "e"
  rw [cut_to w0, show ((rowG ls q).map en).take (wnt ls q).toNat = (aloneG ls q).map en from by rw [← List.map_take]; rfl]
  walk_at "e"
  rw [cut_from w0, show ((rowG ls q).map en).drop (wnt ls q).toNat = (restG ls q).map en from by rw [← List.map_drop]; rfl]
  walk_at "e"
  refine ed_divI (Sp.divW ⟨by decide, by decide⟩) ?_
  walk_at "e"
  have eh : (((restG ls q).map en).length : Int) / 2 = (halfG ls q : Int) := by rw [List.length_map, f2]; omega
  rw [eh]
  refine eo_retR (er_tup2 (er_new (ev_listZip ?_)))
  walk_at "e"
  rw [cut_to (by omega)]
  walk_at "e"
  rw [cut_from (by omega), Int.toNat_natCast, ← List.map_take, ← List.map_drop]
  dsimp only
  refine er_own rfl ?_
  refine ⟨_, _, _, rfl, by simp, ?_, rfl⟩
  rw [zip_prD]
  rfl
end Gr
end

section
/-! #### plans judged -/
theorem sortOk_en (es : List (Int × Int)) : sortOk (es.map en) = true := by
  unfold sortOk
  rw [Bool.and_eq_true, Bool.and_eq_true, Bool.or_eq_true]
  refine ⟨⟨?_, .inl ?_⟩, ?_⟩
  · rw [List.all_eq_true]
    intro d hd
    rw [List.all_eq_true]
    intro e he
    obtain ⟨a, _, rfl⟩ := List.mem_map.mp hd
    obtain ⟨b, _, rfl⟩ := List.mem_map.mp he
    simp [en, PySem.W.alike, PySem.W.alikeAll]
  · rw [List.all_eq_true]
    intro d hd
    obtain ⟨a, _, rfl⟩ := List.mem_map.mp hd
    rfl
  · rw [List.all_eq_true]
    intro d hd
    obtain ⟨a, _, rfl⟩ := List.mem_map.mp hd
    have f : Fine 1 (en a) := fine_en (isEn_en a)
    rw [Bool.and_eq_true]
    exact ⟨decide_eq_true (Nat.le_trans f.2 (by decide)), f.1⟩
theorem ed_sortE {es : List (Int × Int)} {Q : D → Prop} (q : Q (.list ((es.map en).mergeSort leD))) : Ed (dSorted [.list (es.map en)]) Q :=
  ⟨_, by simp only [dSorted, sortOk_en, if_true], q⟩
theorem good_en (e : Int × Int) : Good 1 (en e) := good_tup fun d hd => by
  simp only [List.mem_cons, List.not_mem_nil, or_false] at hd
  rcases hd with rfl | rfl <;> exact good_int _
theorem good_sortE (es : List (Int × Int)) : Good 2 (.list ((es.map en).mergeSort leD)) := good_list fun d hd => by
  obtain ⟨x, _, rfl⟩ := List.mem_map.mp ((List.mergeSort_perm _ _).mem_iff.mp hd)
  exact good_en x
theorem good_esL (es : List (Int × Int)) : Good 2 (.list (es.map en)) := good_list fun d hd => by
  obtain ⟨x, _, rfl⟩ := List.mem_map.mp hd
  exact good_en x
def told (xs es : List D) : List (Int × Int) := (xs.flatMap fun x => [unEn (atD x 0), unEn (atD x 1)]) ++ es.map unEn
def pairB (ls : List Ln) (x : D) : Bool := rowD 2 x && (endD ls.length (atD x 0) && (endD ls.length (atD x 1) && !decide (cmpy ls (unEn (atD x 0)) = cmpy ls (unEn (atD x 1)))))
def pairsB (ls : List Ln) (d : D) : Bool := match seqOf d with
  | some xs => xs.all (pairB ls)
  | none => false
noncomputable def sameB (x y : List D) : Bool := @decide (x = y) (Classical.propDecidable _)
noncomputable def planB (ls : List Ln) (q : Int) (d : D) : Bool := rowD 2 d && (pairsB ls (atD d 0) && (match seqOf (atD d 1) with
  | some es => es.all (endD ls.length) && sameB (((told ((seqOf (atD d 0)).getD []) es).map en).mergeSort leD) ((ends ls q).map en)
  | none => false))
theorem eo_loopED {S : Sx} {Z : Out → Prop} {gg : D → Sx → Option Sx} {body : Sx → Option Out} {xs : List D} (I : Nat → Sx → Prop) (h0 : I 0 S) (hs : ∀ i x S, xs[i]? = some x → I i S → Es (gg x S) fun S1 => Eo (body S1) fun o => (∃ S2, (o = .nx S2 ∨ o = .ct S2) ∧ I (i + 1) S2) ∨ (∃ S2, o = .bk S2 ∧ Z (.nx S2)) ∨ (∃ d S2, o = .rt d S2 ∧ Z (.rt d S2)) ∨ (∃ j S2, o = .ro j S2 ∧ Z (.ro j S2)))
    (hz : ∀ S', I xs.length S' → Z (.nx S')) : Eo (gLoop gg body xs S) Z := by
  have := eo_loopE (enc := fun z : D => z) I h0 hs hz
  rwa [List.map_id'] at this
theorem row2 {x : D} (h : rowD 2 x = true) : ∃ a b, Sq x [a, b] := by
  obtain ⟨xs, s, hl⟩ := row_of h
  match xs, hl with
  | [a, b], _ => exact ⟨a, b, s⟩
theorem atD0 {x a b : D} (s : Sq x [a, b]) : atD x 0 = a := by rw [sq_at s]; rfl
theorem atD1 {x a b : D} (s : Sq x [a, b]) : atD x 1 = b := by rw [sq_at s]; rfl
theorem x_are_pairs {w z : D} {p : Int} {ls : List Ln} (hw : Web w p ls) (h : WbOk p ls) (d : D) : m_are_pairs [w, z, d] = some (.bool (pairsB ls d)) := by
  unfold m_are_pairs; refine mF_of ?_; walk_at "i"; unfold g_are_pairs
  walk_at "e"
  rw [isi_seq]
  refine ⟨fun h1 => ?_, fun h1 => ?_⟩
  · have h1 : seqOf d = none := by simpa using h1
    walk_at "e"
    rw [gives_rtI]
    unfold pairsB
    rw [h1]
  obtain ⟨xs, hx⟩ := Option.isSome_iff_exists.mp (show (seqOf d).isSome = true by simpa using h1)
  have s := sq_of hx
  walk_at "e"
  refine ed_itQ s ?_
  have ep : pairsB ls d = xs.all (pairB ls) := by unfold pairsB; rw [hx]
  refine eo_loopED (fun i S => ∃ x3, S = ⟨[some (.dat w), some (.dat z), some (.dat d), x3], []⟩ ∧ ∀ x ∈ xs.take i, pairB ls x = true) ⟨none, rfl, by simp⟩ ?_ ?_
  · rintro i x S hi ⟨x3, rfl, hI⟩
    have hm := List.mem_of_getElem? hi
    have et : xs.take (i + 1) = xs.take i ++ [x] := by rw [List.take_add_one, hi]; rfl
    have bad : ∀ S, pairB ls x = false → Fu.Gives (.bool (pairsB ls d)) (.rt (.bool false) S) := fun S hb => by
      rw [gives_rtI, ep]
      congr 1
      symm
      exact List.all_eq_false.mpr ⟨x, hm, by rw [hb]; decide⟩
    walk_at "e"
    refine Ed.of (x_is_row x 2) ?_
    walk_at "e"
    cases hr : rowD 2 x with
    | false =>
      walk_at "t"
      walk_at "e"
      exact .inr (.inr (.inl ⟨_, _, rfl, then_rt (bad _ (by unfold pairB; rw [hr]; rfl))⟩))
    | true =>
      obtain ⟨a, b, sx⟩ := row2 hr
      walk_at "f"
      walk_at "e"
      refine ed_ixQ sx (by decide) rfl ?_
      walk_at "e"
      refine Ed.of (x_is_end hw a) ?_
      walk_at "e"
      cases ha : endD ls.length a with
      | false =>
        walk_at "t"
        walk_at "e"
        exact .inr (.inr (.inl ⟨_, _, rfl, then_rt (bad _ (by unfold pairB; rw [hr, atD0 sx, ha]; rfl))⟩))
      | true =>
        walk_at "f"
        walk_at "e"
        refine ed_ixQ sx (by decide) rfl ?_
        walk_at "e"
        refine Ed.of (x_is_end hw b) ?_
        walk_at "e"
        cases hb : endD ls.length b with
        | false =>
          walk_at "t"
          walk_at "e"
          exact .inr (.inr (.inl ⟨_, _, rfl, then_rt (bad _ (by unfold pairB; rw [hr, atD0 sx, atD1 sx, ha, hb]; rfl))⟩))
        | true =>
          obtain ⟨e, se, he⟩ := isEn_of ha
          obtain ⟨f, sf, hf⟩ := isEn_of hb
          have epb : pairB ls x = !decide (cmpy ls e = cmpy ls f) := by
            unfold pairB
            rw [hr, atD0 sx, atD1 sx, ha, hb, unEn_of se, unEn_of sf]
            rfl
          walk_at "f"
          walk_at "e"
          refine ed_ixQ sx (by decide) rfl ?_
          walk_at "e"
          refine Ed.of (x_company_of hw se he) ?_
          walk_at "e"
          refine ed_ixQ sx (by decide) rfl ?_
          walk_at "e"
          refine Ed.of (x_company_of hw sf hf) ?_
          refine Ed.of (dEq_ch (cmpy_ok h he) (cmpy_ok h hf)) ?_
          walk_at "e"
          refine ⟨fun hc => ?_, fun hc => ?_⟩
          · walk_at "e"
            exact .inr (.inr (.inl ⟨_, _, rfl, then_rt (bad _ (by rw [epb, hc]; rfl))⟩))
          · walk_at "e"
            refine .inl ⟨_, .inl rfl, some (.dat x), rfl, fun y hy => ?_⟩
            rw [et] at hy
            rcases List.mem_append.mp hy with hy | hy
            · exact hI y hy
            · rw [List.mem_singleton.mp hy, epb, hc]; rfl
  · rintro S ⟨x3, rfl, hI⟩
    rw [List.take_length] at hI
    walk_at "e"
    rw [gives_rtI, ep, List.all_eq_true.mpr hI]
end

section
theorem sameB_iff {x y : List D} : sameB x y = true ↔ x = y := by unfold sameB; exact @decide_eq_true_iff _ (Classical.propDecidable _)
theorem ed_eqSame {es fs : List (Int × Int)} {Q : D → Prop} (q : Q (.bool (sameB ((es.map en).mergeSort leD) (fs.map en)))) : Ed (dEq (.list ((es.map en).mergeSort leD)) (.list (fs.map en))) Q := by
  refine ed_eq_good (good_sortE es) (good_esL fs) (fun e => ?_) (fun e => ?_)
  · rwa [sameB_iff.mpr (PyData.list.inj e)] at q
  · have : sameB ((es.map en).mergeSort leD) (fs.map en) = false := Bool.eq_false_iff.mpr fun z => e (congrArg PyData.list (sameB_iff.mp z))
    rwa [this] at q
theorem x_plan_shows {w : D} {p q : Int} {ls : List Ln} (hw : Web w p ls) (h : WbOk p ls) (q0 : 0 ≤ q) (q1 : q < p) (d : D) (hz : ∀ i xs, seqOf (atD d i) = some xs → xs.length ≤ 1100000) : m_plan_shows [w, .int q, d] = some (.bool (planB ls q d)) := by
  unfold m_plan_shows; refine mF_of ?_; walk_at "i"; unfold g_plan_shows
  walk_at "e"
  refine Ed.of (x_ends_at hw h.len q0 q1) ?_
  walk_at "e"
  refine Ed.of (x_is_row d 2) ?_
  walk_at "e"
  cases hr : rowD 2 d with
  | false =>
    walk_at "t"
    walk_at "e"
    rw [gives_rtI]
    unfold planB
    rw [hr]
    rfl
  | true =>
  obtain ⟨a, b, sd⟩ := row2 hr
  walk_at "f"
  walk_at "e"
  refine ed_ixQ sd (by decide) rfl ?_
  walk_at "e"
  refine Ed.of (x_are_pairs hw h a) ?_
  walk_at "e"
  cases hp : pairsB ls a with
  | false =>
    walk_at "t"
    walk_at "e"
    rw [gives_rtI]
    unfold planB
    rw [hr, atD0 sd, hp]
    rfl
  | true =>
  walk_at "f"
  walk_at "e"
  refine ed_ixQ sd (by decide) rfl ?_
  walk_at "e"
  rw [isi_seq]
  cases hb : seqOf b with
  | none =>
    walk_at "t"
    walk_at "e"
    rw [gives_rtI]
    unfold planB
    rw [hr, atD0 sd, atD1 sd, hp, hb]
    rfl
  | some es =>
  have sb := sq_of hb
  walk_at "f"
  walk_at "e"
  refine ev_lcX (xs := es) (enc := fun z => z) (b := fun _ => true) (g := fun z => .bool (endD ls.length z)) ?_
  walk_at "e"
  refine ed_ixQ sd (by decide) rfl ?_
  walk_at "e"
  refine ed_itQ sb ⟨(List.map_id' _).symm, fun z hz => ?_, ?_⟩
  · walk_at "e"
    refine ⟨rfl, rfl, fun _ => ?_⟩
    walk_at "e"
    refine Ed.of (x_is_end hw z) ?_
    walk_at "e"
  rw [filter_tt]
  walk_at "e"
  refine all_mapX (endD ls.length) es ?_
  walk_at "e"
  cases he : es.all (endD ls.length) with
  | false =>
    walk_at "t"
    walk_at "e"
    rw [gives_rtI]
    unfold planB
    rw [hr, atD0 sd, atD1 sd, hp, hb]
    simp only [he]
    rfl
  | true =>
  walk_at "f"
  walk_at "e"
  obtain ⟨xs, hx, hxa⟩ : ∃ xs, seqOf a = some xs ∧ xs.all (pairB ls) = true := by
    unfold pairsB at hp
    cases hx : seqOf a with
    | none => rw [hx] at hp; cases hp
    | some xs => rw [hx] at hp; exact ⟨xs, rfl, hp⟩
  have sa := sq_of hx
  have l1 := hz 0 xs (by rw [atD0 sd]; exact hx)
  have l2 := hz 1 es (by rw [atD1 sd]; exact hb)
  refine ev_lc2X (xs := xs) (enc := fun z => z) (b := fun _ => true) (es := fun x => [atD x 0, atD x 1]) (enc1 := fun _ z => z) (b1 := fun _ _ => true) (f := fun _ z => en (unEn z)) (by decide) ?_
  walk_at "e"
  refine ed_ixQ sd (by decide) rfl ?_
  walk_at "e"
  refine ed_itQ sa ⟨(List.map_id' _).symm, fun x hx => ?_, ?_⟩
  · have hpx := List.all_eq_true.mp hxa x hx
    unfold pairB at hpx
    simp only [Bool.and_eq_true] at hpx
    obtain ⟨u, v, sx⟩ := row2 hpx.1
    rw [atD0 sx, atD1 sx] at hpx
    obtain ⟨e, se, _⟩ := isEn_of hpx.2.1
    obtain ⟨f, sf, _⟩ := isEn_of hpx.2.2.1
    walk_at "e"
    refine ⟨rfl, rfl, fun _ => ?_⟩
    walk_at "e"
    refine ed_itQ sx ⟨⟨by rw [List.map_id', atD0 sx, atD1 sx], rfl⟩, fun z hz => ?_⟩
    walk_at "e"
    refine ⟨rfl, rfl, fun _ => ?_⟩
    walk_at "e"
    rw [atD0 sx, atD1 sx] at hz
    simp only [List.mem_cons, List.not_mem_nil, or_false] at hz
    rcases hz with rfl | rfl
    · rw [unEn_of se]
      refine ed_tupQ se ?_
      exact ⟨rfl, rfl⟩
    · rw [unEn_of sf]
      refine ed_tupQ sf ?_
      exact ⟨rfl, rfl⟩
  have e1 : (xs.filter fun _ => true).flatMap (fun x => ([atD x 0, atD x 1].filter fun _ => true).map fun z => en (unEn z)) = (xs.flatMap fun x => [unEn (atD x 0), unEn (atD x 1)]).map en := by
    simp only [filter_tt]
    rw [List.map_flatMap]
    rfl
  have l3 : (xs.flatMap fun x => [unEn (atD x 0), unEn (atD x 1)]).length = 2 * xs.length := by
    clear hx hxa sa l1 e1
    induction xs with
    | nil => rfl
    | cons x xs ih => rw [List.flatMap_cons, List.length_append, ih, List.length_cons]; simp only [List.length_cons, List.length_nil]; omega
  rw [e1]
  refine ⟨by rw [List.length_map]; omega, ?_⟩
  walk_at "e"
  refine ev_lcX (xs := es) (enc := fun z => z) (b := fun _ => true) (g := fun z => en (unEn z)) ?_
  walk_at "e"
  refine ed_ixQ sd (by decide) rfl ?_
  walk_at "e"
  refine ed_itQ sb ⟨(List.map_id' _).symm, fun z hz => ?_, ?_⟩
  · obtain ⟨e, se, _⟩ := isEn_of (List.all_eq_true.mp he z hz)
    walk_at "e"
    refine ⟨rfl, rfl, fun _ => ?_⟩
    walk_at "e"
    rw [unEn_of se]
    refine ed_tupQ se ?_
    exact ⟨rfl, rfl⟩
  rw [filter_tt]
  walk_at "e"
  refine ed_addL (by rw [List.length_map, List.length_map]; omega) ?_
  have e2 : (xs.flatMap fun x => [unEn (atD x 0), unEn (atD x 1)]).map en ++ es.map (fun z => en (unEn z)) = (told xs es).map en := by
    unfold told
    rw [List.map_append, List.map_map]
    rfl
  rw [e2]
  walk_at "e"
  refine ed_sortE ?_
  walk_at "e"
  refine ed_eqSame ?_
  rw [gives_rtI]
  unfold planB
  rw [hr, atD0 sd, atD1 sd, hp, hb, hx]
  simp only [he, Option.getD_some, Bool.true_and]
end

end Lw

set_option maxHeartbeats 4000000
namespace Lw
open PySem Fu
local macro_rules | `(tactic| walk_at "e1") => `(tactic| first
  | with_reducible refine eo_seq ?_ | (with_reducible refine then_nx' ?_; refine ⟨?_, ?_, ?_⟩; rotate_left; · (try dsimp only [List.set, List.length_cons, List.length_nil, List.cons_append, List.nil_append, Nat.zero_add, Nat.reduceAdd]); exact rfl) | with_reducible refine then_rt ?_ | with_reducible refine eo_if ?_ | with_reducible refine eo_ret ?_ | with_reducible refine eo_set ?_ | with_reducible refine eo_asg ?_ | with_reducible refine eo_drop ?_ | with_reducible refine eo_nx ?_ | with_reducible refine eo_par ?_ | with_reducible refine eo_own ?_ | with_reducible refine eo_retN ?_ | with_reducible refine eo_for ?_ | with_reducible refine eo_retO ?_
  | with_reducible refine ev_c ?_ | (with_reducible refine ev_var ?_; refine ⟨_, rfl, ?_⟩) | with_reducible refine ev_bin ?_ | with_reducible refine ev_un ?_ | with_reducible refine ev_nil ?_ | with_reducible refine ev_cons ?_
  | with_reducible refine ev_tup ?_ | with_reducible refine ev_lst ?_ | with_reducible refine ev_call ?_ | with_reducible refine ev_callF ?_ | with_reducible refine ev_isi ?_ | with_reducible refine ev_isi2 ?_ | with_reducible refine ev_andV ?_ | with_reducible refine ev_orV ?_ | with_reducible refine ev_notV ?_
  | with_reducible refine ev_B ?_ | with_reducible refine ev_and ?_ | with_reducible refine ev_or ?_ | with_reducible refine ev_not ?_ | with_reducible refine ev_yes ?_ | with_reducible refine ev_if ?_ | with_reducible refine ev_no ?_ | with_reducible refine ev_so ?_ | with_reducible refine ev_sl ?_ | with_reducible refine ev_items ?_
  | (with_reducible refine ev_ixO ?_; refine ⟨_, _, rfl, rfl, ?_⟩) | (with_reducible refine ev_varO ?_; refine ⟨_, _, rfl, rfl, ?_⟩) | (with_reducible refine ev_lenO ?_; refine ⟨_, _, rfl, rfl, ?_⟩) | (with_reducible refine ev_scrSl ?_; refine ⟨_, rfl, ?_⟩) | (with_reducible refine ev_scrLen ?_; refine ⟨_, rfl, ?_⟩) | (with_reducible refine ev_callScr ?_; refine ⟨_, rfl, ?_⟩) | (with_reducible refine ev_OL ?_; refine ⟨_, _, rfl, rfl, ?_⟩) | with_reducible refine ev_OR ?_ | with_reducible refine ev_rep ?_ | with_reducible refine ev_listRng1 ?_ | with_reducible refine eo_setO ?_
  | with_reducible refine es_name ?_ | with_reducible refine es_tup2 ?_ | with_reducible refine es_tup3 ?_
  | with_reducible refine ed_addI ?_ | with_reducible refine ed_subI ?_ | with_reducible refine ed_cmp ?_ | with_reducible refine ed_eqI ?_ | with_reducible refine ed_neI ?_ | with_reducible refine ed_slT ?_ | with_reducible refine ed_slL ?_ | with_reducible refine ed_lenT ?_ | with_reducible refine ed_lenL ?_ | with_reducible refine ed_lenS ?_ | with_reducible refine ed_inS ?_ | with_reducible refine ed_itT ?_ | with_reducible refine ed_itL ?_ | with_reducible refine ed_tupL ?_ | with_reducible refine ed_tupT ?_ | with_reducible refine ed_listL ?_ | with_reducible refine ed_listT ?_ | with_reducible refine ed_neg ?_ | with_reducible refine ed_max ?_ | with_reducible refine ed_min ?_ | with_reducible refine ed_intB ?_
  | with_reducible refine ev_rng1 ?_ | with_reducible refine ev_rng2 ?_)
local macro_rules | `(tactic| walk_at "sd") => `(tactic| first | rfl | assumption | (simp only [decide_eq_true_eq, decide_eq_false_iff_not, Bool.not_eq_true', Bool.not_eq_false', Bool.and_eq_true, Bool.or_eq_true, List.length_map, List.length_cons, List.length_nil, List.length_append, List.length_range] at *; omega))
local macro_rules | `(tactic| walk_at "e2") => `(tactic| first
  | walk_at "e1" | with_reducible refine ⟨_, rfl, ?_⟩ | with_reducible refine ⟨_, _, rfl, ?_⟩
  | with_reducible refine And.intro (Eq.refl (List.length _)) ?_ | with_reducible refine And.intro (Nat.le_of_ble_eq_true (n := List.length _) rfl) ?_
  | with_reducible refine And.intro (Eq.refl (_ : Sx)) (?_ : Ed _ _)
  | ((with_reducible refine And.intro ?_ (And.intro ?_ (?_ : Ev _ _))); (· rfl); (· rfl))
  | ((with_reducible refine ed_ixT ?_ ?_ ?_); (· decide); (· rfl)) | ((with_reducible refine ed_ixL ?_ ?_ ?_); (· decide); (· rfl)) | ((with_reducible refine ed_at ?_ ?_ ?_); (· decide); (· rfl))
  | ((with_reducible refine ed_modI ?_ ?_); (· first | decide | omega))
  | with_reducible exact gives_nx | ((with_reducible refine gives_rt ?_); (· rfl)) | ((with_reducible refine And.intro ?_ ?_); (· exact rfl); (· with_reducible exact Eq.refl (_ : Sx))))
local macro_rules | `(tactic| walk_at "e") => `(tactic| repeat walk_at "e2")
/-- begin a def's spec -/
local macro_rules | `(tactic| walk_at "i") => `(tactic| simp only [initS, List.map_cons, List.map_nil, List.length_cons, List.length_nil, Nat.reduceAdd, Nat.reduceSub, List.replicate, List.cons_append, List.nil_append])
/-- a known truth decides -/
local macro_rules | `(tactic| walk_at "t") => `(tactic| first | ((with_reducible refine split_t ?_ ?_); (· walk_at "sd")) | ((with_reducible refine split_t' ?_ ?_); (· walk_at "sd")))
local macro_rules | `(tactic| walk_at "f") => `(tactic| first | ((with_reducible refine split_f ?_ ?_); (· walk_at "sd")) | ((with_reducible refine split_f' ?_ ?_); (· walk_at "sd")))
/-- all that is seen in a look -/
local macro_rules | `(tactic| walk_at "v") => `(tactic| (rw [sealAll_mk (by (simp only [List.set_cons_zero, List.set_cons_succ, List.map_cons, List.map_nil, sealS_none, sealS_dat, sealS_scr, sealS_own, List.getElem?_cons_zero, List.getElem?_cons_succ, sealC_lst]; rfl)) (by (simp only [List.set_cons_zero, List.set_cons_succ, List.map_cons, List.map_nil]; rfl))]))

section
/-! ### what may raise -/
section
variable {α : Type} {S : Sx} {g h : Sx → Option (Zr Out)} {Z : Zr Out → Prop}
def Oz {α : Type} (x : Option (Zr α)) (Z : Zr α → Prop) : Prop := ∃ r, x = some r ∧ Z r
theorem oz_S {g : Sx → Option Out} (h : Eo (g S) fun o => Z (.ok o)) : Oz (zS g S) Z := by
  obtain ⟨o, e, q⟩ := h
  exact ⟨_, by simp only [zS, e, Option.map_some], q⟩
theorem oz_seq (h1 : Oz (g S) fun r => ∃ S1, r = .ok (.nx S1) ∧ Oz (h S1) Z) : Oz (zSeq g h S) Z := by
  obtain ⟨_, e, S1, rfl, r, e2, q⟩ := h1
  exact ⟨r, by simp only [zSeq, e, Option.bind_some, e2], q⟩
theorem oz_seqE (h1 : Oz (g S) fun r => ∃ e, r = .error e ∧ Z (.error e)) : Oz (zSeq g h S) Z := by
  obtain ⟨_, e, er, rfl, q⟩ := h1
  exact ⟨_, by simp only [zSeq, e, Option.bind_some], q⟩
theorem oz_if {t : M Bool} (h1 : Ev (t S) fun b S1 => (b = true → Oz (g S1) Z) ∧ (b = false → Oz (h S1) Z)) : Oz (zIf t g h S) Z := by
  obtain ⟨b, S1, e, h2, h3⟩ := h1
  cases b with
  | true => obtain ⟨r, e2, q⟩ := h2 rfl; exact ⟨r, by simp only [zIf, e, Option.bind_some, if_true, e2], q⟩
  | false => obtain ⟨r, e2, q⟩ := h3 rfl; exact ⟨r, by simp only [zIf, e, Option.bind_some, Bool.false_eq_true, if_false, e2], q⟩
theorem oz_raise {c : Str} (q : Z (.error (c, S))) : Oz (zRaise c S) Z := ⟨_, rfl, q⟩
theorem oz_drop {ge : Sx → Option (Zr (D × Sx))} (h : Oz (ge S) fun r => ∃ d S1, r = .ok (d, S1) ∧ Z (.ok (.nx S1))) : Oz (zDrop ge S) Z := by
  obtain ⟨_, e, d, S1, rfl, q⟩ := h
  exact ⟨_, by simp only [zDrop, zBe, e, Option.bind_some, Option.map_some], q⟩
theorem oz_dropE {ge : Sx → Option (Zr (D × Sx))} (h : Oz (ge S) fun r => ∃ e, r = .error e ∧ Z (.error e)) : Oz (zDrop ge S) Z := by
  obtain ⟨_, e, er, rfl, q⟩ := h
  exact ⟨_, by simp only [zDrop, zBe, e, Option.bind_some], q⟩
theorem oz_call {n : Nat} {m : List D → Option (Except Str D)} {gs : M (List D)} {Q : Zr (D × Sx) → Prop} (h : Ev (gs S) fun ds S1 => ds.length = n ∧ ∃ r, m ds = some r ∧ (∀ z, r = .ok z → Q (.ok (z, S1))) ∧ (∀ c, r = .error c → Q (.error (c, S1)))) : Oz (zCall n m gs S) Q := by
  obtain ⟨ds, S1, e, hn, r, e2, h1, h2⟩ := h
  cases r with
  | ok z => exact ⟨_, by simp only [zCall, e, Option.bind_some, if_pos hn, e2, Option.map_some], h1 z rfl⟩
  | error c => exact ⟨_, by simp only [zCall, e, Option.bind_some, if_pos hn, e2, Option.map_some], h2 c rfl⟩
/-- what a def's end hands on -/
def ZGives (Q : Except Str D → Prop) : Zr Out → Prop
  | .error e => Q (.error e.1)
  | .ok (.nx _) => Q (.ok .none)
  | .ok (.rt d _) => Q (.ok d)
  | _ => False
theorem mZ_of {n : Nat} {ds : List D} {Q : Except Str D → Prop} (h : Oz (g ⟨initS n ds, []⟩) (ZGives Q)) : ∃ r, mZ n g ds = some r ∧ Q r := by
  obtain ⟨r, e, q⟩ := h
  unfold mZ
  rw [e]
  cases r with
  | error er => exact ⟨_, rfl, q⟩
  | ok o =>
    cases o with
    | nx S => exact ⟨_, rfl, q⟩
    | rt d S => exact ⟨_, rfl, q⟩
    | _ => exact q.elim
theorem eo_try {cs : List Str} {i j : Nat} {Y : Out → Prop} (h : Oz (g S) fun r => (∃ o, r = .ok o ∧ Y o) ∨ ∃ c S1, r = .error (c, S1) ∧ c ∈ cs ∧ i < S1.sl.length ∧ Y (.nx ⟨(S1.sl.set j (some (.exc c))).set i none, S1.os⟩)) : Eo (qTry cs i j g S) Y := by
  obtain ⟨_, e, ⟨o, rfl, q⟩ | ⟨c, S1, rfl, hc, hl, q⟩⟩ := h
  · exact ⟨o, by simp only [qTry, e, Option.bind_some], q⟩
  · exact ⟨_, by simp only [qTry, e, Option.bind_some]; rw [if_pos ⟨hc, hl⟩], q⟩
theorem ev_isNx {i : Nat} {c : Str} {Q : D → Sx → Prop} (h : S.sl[i]? = some (some (.exc c))) (q : Q (.bool false) S) : Ev (gIsN i S) Q := ⟨_, _, by simp only [gIsN, h], q⟩
theorem ev_isN0 {i : Nat} {Q : D → Sx → Prop} (h : S.sl[i]? = some (some (.dat .none))) (q : Q (.bool true) S) : Ev (gIsN i S) Q := ⟨_, _, by simp only [gIsN, h], q⟩
theorem ev_callX {i : Nat} {c : Str} {z : D} {m : Str → Option D} {Q : D → Sx → Prop} (h : S.sl[i]? = some (some (.exc c))) (e : m c = some z) (q : Q z S) : Ev (gCallX i m S) Q := ⟨_, _, by simp only [gCallX, h, e, Option.map_some], q⟩
end
/-! ### the refusals -/
theorem whole_of {d : D} (h : wholeD d = true) : ∃ i : Int, d = .int i ∧ 0 ≤ i := by
  cases d <;> simp [wholeD] at h
  exact ⟨_, rfl, h⟩
theorem z_need_place {w : D} {p : Int} {ls : List Ln} (hw : Web w p ls) (d : D) : m_need_place_Z [w, d] = some (if placeD p d = true then .ok .none else .error "NoPlace") := by
  obtain ⟨L, s, hL⟩ := hw
  have : ∃ r, m_need_place_Z [w, d] = some r ∧ r = (if placeD p d = true then .ok .none else .error "NoPlace") := by
    unfold m_need_place_Z; refine mZ_of ?_; walk_at "i"; unfold g_need_place_Z
    refine oz_if ?_
    walk_at "e"
    refine Ed.of (x_is_whole _) ?_
    walk_at "e"
    cases hd : wholeD d with
    | false =>
      refine split_t' rfl ?_
      refine split_t rfl (oz_raise ?_)
      have : placeD p d = false := by cases d <;> simp [wholeD, placeD] at hd ⊢; omega
      show (Except.error ("NoPlace" : Str) : Except Str D) = _
      rw [this]; rfl
    | true =>
      obtain ⟨i, rfl, i0⟩ := whole_of hd
      refine split_f' rfl ?_
      walk_at "e"
      refine ed_ixQ s (by decide) rfl ?_
      walk_at "e"
      by_cases h : p ≤ i
      · refine split_t (by simpa using h) (oz_raise ?_)
        show (Except.error ("NoPlace" : Str) : Except Str D) = _
        rw [if_neg (by simp [placeD]; omega)]
      · refine split_f (by simpa using h) (oz_S ?_)
        walk_at "e"
        show (Except.ok PyData.none : Except Str D) = _
        rw [if_pos (by simp [placeD]; omega)]
  obtain ⟨r, e, rfl⟩ := this
  exact e
end

section
/-! ### the five deeds -/
end

section
/-! ### the deeds, refused or not -/
def Okz (x : Option (Except Str D)) : Prop := ∃ z, x = some (.ok z)
theorem okz_of {x : Option (Except Str D)} (h : ∃ r, x = some r ∧ ∃ z, r = .ok z) : Okz x := by
  obtain ⟨_, e, z, rfl⟩ := h
  exact ⟨z, e⟩
theorem erz_of {x : Option (Except Str D)} {c : Str} (h : ∃ r, x = some r ∧ r = .error c) : x = some (.error c) := by
  obtain ⟨_, e, rfl⟩ := h
  exact e
section
variable {α : Type} {S : Sx} {g h : Sx → Option (Zr Out)} {Z : Zr Out → Prop}
/-- a step that is let by -/
theorem oz_go {n : Nat} {m : List D → Option (Except Str D)} {gs : M (List D)} {z : D} (e : Ev (gs S) fun ds S1 => ds.length = n ∧ m ds = some (.ok z) ∧ Oz (h S1) Z) : Oz (zSeq (zDrop (zCall n m gs)) h S) Z := by
  refine oz_seq (oz_drop (oz_call ?_))
  obtain ⟨ds, S1, e1, hn, hm, q⟩ := e
  exact ⟨ds, S1, e1, hn, _, hm, fun z' e' => ⟨z', S1, rfl, S1, rfl, q⟩, (fun c e' => nomatch e')⟩
/-- a step that is refused -/
theorem oz_no {n : Nat} {m : List D → Option (Except Str D)} {gs : M (List D)} (c : Str) (e : Ev (gs S) fun ds S1 => ds.length = n ∧ m ds = some (.error c) ∧ Z (.error (c, S1))) : Oz (zSeq (zDrop (zCall n m gs)) h S) Z := by
  refine oz_seqE (oz_dropE (oz_call ?_))
  obtain ⟨ds, S1, e1, hn, hm, q⟩ := e
  exact ⟨ds, S1, e1, hn, _, hm, (fun z' e' => nomatch e'), fun c' e' => by cases e'; exact ⟨_, rfl, _, rfl, q⟩⟩
end
theorem z_np_ok {w : D} {p : Int} {ls : List Ln} {d : D} (hw : Web w p ls) (h : placeD p d = true) : m_need_place_Z [w, d] = some (.ok .none) := by rw [z_need_place hw, if_pos h]
theorem z_np_no {w : D} {p : Int} {ls : List Ln} {d : D} (hw : Web w p ls) (h : placeD p d = false) : m_need_place_Z [w, d] = some (.error "NoPlace") := by rw [z_need_place hw, h]; rfl
section
variable {w : D} {p : Int} {ls : List Ln} {a b c : D}
theorem z_ends_at1 (hw : Web w p ls) (h1 : placeD p a = false) : m_ends_at_Z [w, a] = some (.error "NoPlace") := by
  unfold m_ends_at_Z; refine erz_of (mZ_of ?_); walk_at "i"; unfold g_ends_at_Z
  refine oz_no "NoPlace" ?_
  walk_at "e"
  exact ⟨z_np_no hw h1, rfl⟩
theorem place_of {n : Int} {d : D} (h : placeD n d = true) : ∃ i : Int, d = .int i ∧ 0 ≤ i ∧ i < n := by
  cases d <;> simp [placeD] at h
  exact ⟨_, rfl, h.1, h.2⟩
theorem z_ends_at2 (hw : Web w p ls) (h : WbOk p ls) (hl : ls.length ≤ 1000) (h1 : placeD p a = true) : Okz (m_ends_at_Z [w, a]) := by
  obtain ⟨q, rfl, q0, q1⟩ := place_of h1
  unfold m_ends_at_Z; refine okz_of (mZ_of ?_); walk_at "i"; unfold g_ends_at_Z
  refine oz_go (z := .none) ?_
  walk_at "e"
  refine ⟨z_np_ok hw h1, oz_S ?_⟩
  walk_at "e"
  refine ev_lcX (xs := allE ls.length) (enc := en) (b := fun e => decide (plc ls e = q)) (g := en) ?_
  walk_at "e"
  refine Ed.of (x_all_ends hw (by omega)) ?_
  walk_at "e"
  refine ⟨rfl, fun e he => ?_, ?_⟩
  · walk_at "e"
    refine Ed.of (x_place_of hw (isEn_en e) (allE_mem.mp he)) ?_
    walk_at "e"
    exact ⟨rfl, rfl, fun _ => ev_var ⟨_, rfl, rfl, rfl⟩⟩
  · walk_at "e"
    exact ⟨_, rfl⟩
end
end

section
namespace Rl
open Lw
def isS (x : Option D) (s : Str) : Bool := match x with
  | some (.str z) => decide (z = s)
  | _ => false
theorem isS_of {x : Option D} {s : Str} (h : isS x s = true) : x = some (.str s) := by
  unfold isS at h
  split at h
  · rw [of_decide_eq_true h]
  · cases h
theorem oz_leaf {S : Sx} {n : Nat} {m : List D → Option (Except Str D)} {gs : M (List D)} {Z : Zr Out → Prop} (h : Ev (gs S) fun ds S1 => ds.length = n ∧ ∃ r, m ds = some r ∧ (∀ z, r = .ok z → Z (.ok (.nx S1))) ∧ (∀ c, r = .error c → Z (.error (c, S1)))) : Oz (zDrop (zCall n m gs) S) Z := by
  obtain ⟨ds, S1, e, hn, r, hm, h1, h2⟩ := h
  cases r with
  | ok z => exact oz_drop (oz_call ⟨ds, S1, e, hn, _, hm, fun z' e' => by cases e'; exact ⟨_, _, rfl, h1 _ rfl⟩, (fun c e' => nomatch e')⟩)
  | error c => exact oz_dropE (oz_call ⟨ds, S1, e, hn, _, hm, (fun z e' => nomatch e'), fun c' e' => by cases e'; exact ⟨_, rfl, h2 _ rfl⟩⟩)
def told : Except Str D → Str
  | .ok _ => "none"
  | .error c => c
end Rl
end

end Lw

set_option maxHeartbeats 4000000
namespace Lw
open PySem Fu
local macro_rules | `(tactic| walk_at "e1") => `(tactic| first
  | with_reducible refine eo_seq ?_ | (with_reducible refine then_nx' ?_; refine ⟨?_, ?_, ?_⟩; rotate_left; · (try dsimp only [List.set, List.length_cons, List.length_nil, List.cons_append, List.nil_append, Nat.zero_add, Nat.reduceAdd]); exact rfl) | with_reducible refine then_rt ?_ | with_reducible refine eo_if ?_ | with_reducible refine eo_ret ?_ | with_reducible refine eo_set ?_ | with_reducible refine eo_asg ?_ | with_reducible refine eo_drop ?_ | with_reducible refine eo_nx ?_ | with_reducible refine eo_par ?_ | with_reducible refine eo_own ?_ | with_reducible refine eo_retN ?_ | with_reducible refine eo_for ?_ | with_reducible refine eo_retO ?_
  | with_reducible refine ev_c ?_ | (with_reducible refine ev_var ?_; refine ⟨_, rfl, ?_⟩) | with_reducible refine ev_bin ?_ | with_reducible refine ev_un ?_ | with_reducible refine ev_nil ?_ | with_reducible refine ev_cons ?_
  | with_reducible refine ev_tup ?_ | with_reducible refine ev_lst ?_ | with_reducible refine ev_call ?_ | with_reducible refine ev_callF ?_ | with_reducible refine ev_isi ?_ | with_reducible refine ev_isi2 ?_ | with_reducible refine ev_andV ?_ | with_reducible refine ev_orV ?_ | with_reducible refine ev_notV ?_
  | with_reducible refine ev_B ?_ | with_reducible refine ev_and ?_ | with_reducible refine ev_or ?_ | with_reducible refine ev_not ?_ | with_reducible refine ev_yes ?_ | with_reducible refine ev_if ?_ | with_reducible refine ev_no ?_ | with_reducible refine ev_so ?_ | with_reducible refine ev_sl ?_ | with_reducible refine ev_items ?_
  | (with_reducible refine ev_ixO ?_; refine ⟨_, _, rfl, rfl, ?_⟩) | (with_reducible refine ev_varO ?_; refine ⟨_, _, rfl, rfl, ?_⟩) | (with_reducible refine ev_lenO ?_; refine ⟨_, _, rfl, rfl, ?_⟩) | (with_reducible refine ev_scrSl ?_; refine ⟨_, rfl, ?_⟩) | (with_reducible refine ev_scrLen ?_; refine ⟨_, rfl, ?_⟩) | (with_reducible refine ev_callScr ?_; refine ⟨_, rfl, ?_⟩) | (with_reducible refine ev_OL ?_; refine ⟨_, _, rfl, rfl, ?_⟩) | with_reducible refine ev_OR ?_ | with_reducible refine ev_rep ?_ | with_reducible refine ev_listRng1 ?_ | with_reducible refine eo_setO ?_
  | with_reducible refine es_name ?_ | with_reducible refine es_tup2 ?_ | with_reducible refine es_tup3 ?_
  | with_reducible refine ed_addI ?_ | with_reducible refine ed_subI ?_ | with_reducible refine ed_cmp ?_ | with_reducible refine ed_eqI ?_ | with_reducible refine ed_neI ?_ | with_reducible refine ed_slT ?_ | with_reducible refine ed_slL ?_ | with_reducible refine ed_lenT ?_ | with_reducible refine ed_lenL ?_ | with_reducible refine ed_lenS ?_ | with_reducible refine ed_inS ?_ | with_reducible refine ed_itT ?_ | with_reducible refine ed_itL ?_ | with_reducible refine ed_tupL ?_ | with_reducible refine ed_tupT ?_ | with_reducible refine ed_listL ?_ | with_reducible refine ed_listT ?_ | with_reducible refine ed_neg ?_ | with_reducible refine ed_max ?_ | with_reducible refine ed_min ?_ | with_reducible refine ed_intB ?_
  | with_reducible refine ev_rng1 ?_ | with_reducible refine ev_rng2 ?_)
local macro_rules | `(tactic| walk_at "sd") => `(tactic| first | rfl | assumption | (simp only [decide_eq_true_eq, decide_eq_false_iff_not, Bool.not_eq_true', Bool.not_eq_false', Bool.and_eq_true, Bool.or_eq_true, List.length_map, List.length_cons, List.length_nil, List.length_append, List.length_range] at *; omega))
local macro_rules | `(tactic| walk_at "e2") => `(tactic| first
  | walk_at "e1" | with_reducible refine ⟨_, rfl, ?_⟩ | with_reducible refine ⟨_, _, rfl, ?_⟩
  | with_reducible refine And.intro (Eq.refl (List.length _)) ?_ | with_reducible refine And.intro (Nat.le_of_ble_eq_true (n := List.length _) rfl) ?_
  | with_reducible refine And.intro (Eq.refl (_ : Sx)) (?_ : Ed _ _)
  | ((with_reducible refine And.intro ?_ (And.intro ?_ (?_ : Ev _ _))); (· rfl); (· rfl))
  | ((with_reducible refine ed_ixTx ?_); refine ⟨_, by decide, rfl, ?_⟩) | ((with_reducible refine ed_ixLx ?_); refine ⟨_, by decide, rfl, ?_⟩) | ((with_reducible refine es_star ?_))
  | with_reducible refine an_tt ?_ | with_reducible refine an_ft ?_ | with_reducible refine an_tf ?_ | with_reducible refine an_ff ?_ | with_reducible refine an_ntt ?_ | with_reducible refine an_nft ?_ | with_reducible refine an_ntf ?_ | with_reducible refine an_nff ?_
  | ((with_reducible refine ed_dneSelf ?_)) | ((with_reducible refine ed_deqSelf ?_))
  | ((with_reducible refine ed_ixT ?_ ?_ ?_); (· decide); (· rfl)) | ((with_reducible refine ed_ixL ?_ ?_ ?_); (· decide); (· rfl)) | ((with_reducible refine ed_at ?_ ?_ ?_); (· decide); (· rfl))
  | ((with_reducible refine ed_modI ?_ ?_); (· first | decide | omega))
  | with_reducible exact gives_nx | ((with_reducible refine gives_rt ?_); (· rfl)) | ((with_reducible refine And.intro ?_ ?_); (· exact rfl); (· with_reducible exact Eq.refl (_ : Sx))))
local macro_rules | `(tactic| walk_at "e") => `(tactic| repeat walk_at "e2")
/-- begin a def's spec -/
local macro_rules | `(tactic| walk_at "i") => `(tactic| simp only [initS, List.map_cons, List.map_nil, List.length_cons, List.length_nil, Nat.reduceAdd, Nat.reduceSub, List.replicate, List.cons_append, List.nil_append])
/-- a known truth decides -/
local macro_rules | `(tactic| walk_at "t") => `(tactic| first | ((with_reducible refine split_t ?_ ?_); (· walk_at "sd")) | ((with_reducible refine split_t' ?_ ?_); (· walk_at "sd")))
local macro_rules | `(tactic| walk_at "f") => `(tactic| first | ((with_reducible refine split_f ?_ ?_); (· walk_at "sd")) | ((with_reducible refine split_f' ?_ ?_); (· walk_at "sd")))
/-- all that is seen in a look -/
local macro_rules | `(tactic| walk_at "v") => `(tactic| (rw [sealAll_mk (by (simp only [List.set_cons_zero, List.set_cons_succ, List.map_cons, List.map_nil, sealS_none, sealS_dat, sealS_scr, sealS_own, List.getElem?_cons_zero, List.getElem?_cons_succ, sealC_lst]; rfl)) (by (simp only [List.set_cons_zero, List.set_cons_succ, List.map_cons, List.map_nil]; rfl))]))

section
namespace Cn
open Gr Rl
section
variable {w a : D}
theorem xb1 (h : m_ends_at_Z [w, a] = some (.error "NoPlace")) : m_by_companies_X [w, a] = some (.error "NoPlace") := by
  simp [m_by_companies_X, mZ, g_by_companies_X, zSeq, zS, qDict0, zErr, errOf, zCall, gCons, gVar, gNil, initS, h, List.set]
theorem xb2 (h : Okz (m_ends_at_Z [w, a])) : m_by_companies_X [w, a] = none := by
  obtain ⟨z, h⟩ := h
  simp [m_by_companies_X, mZ, g_by_companies_X, zSeq, zS, qDict0, zErr, errOf, zCall, gCons, gVar, gNil, initS, h, List.set]
theorem xw1 (h : m_ends_at_Z [w, a] = some (.error "NoPlace")) : m_want_at_X [w, a] = some (.error "NoPlace") := by
  simp [m_want_at_X, mZ, g_want_at_X, zRet, zBe, zCallF, zOne, zErr, errOf, zCall, gCons, gVar, gNil, initS, xb1 h]
theorem xw2 (h : Okz (m_ends_at_Z [w, a])) : m_want_at_X [w, a] = none := by
  simp [m_want_at_X, mZ, g_want_at_X, zRet, zBe, zCallF, zOne, zErr, errOf, zCall, gCons, gVar, gNil, initS, xb2 h]
theorem xp1 (h : m_ends_at_Z [w, a] = some (.error "NoPlace")) : m_plan_at_X [w, a] = some (.error "NoPlace") := by
  simp [m_plan_at_X, mZ, g_plan_at_X, zSeq, zSet, zBe, zCall, gCons, gVar, gNil, initS, xb1 h]
theorem xp2 (h : Okz (m_ends_at_Z [w, a])) : m_plan_at_X [w, a] = none := by
  simp [m_plan_at_X, mZ, g_plan_at_X, zSeq, zSet, zBe, zCall, gCons, gVar, gNil, initS, xb2 h]
theorem xs1 {d : D} (h : m_ends_at_Z [w, a] = some (.error "NoPlace")) : m_plan_shows_X [w, a, d] = some (.error "NoPlace") := by
  simp [m_plan_shows_X, mZ, g_plan_shows_X, zSeq, zSet, zBe, zCall, gCons, gVar, gNil, initS, h]
theorem xs2 {d : D} (h : Okz (m_ends_at_Z [w, a])) : m_plan_shows_X [w, a, d] = none := by
  obtain ⟨z, h⟩ := h
  simp [m_plan_shows_X, mZ, g_plan_shows_X, zSeq, zSet, zBe, zCall, gCons, gVar, gNil, initS, h, zS, qSeq, qNone]
theorem xc1 (h : m_ends_at_Z [w, a] = some (.error "NoPlace")) : m_plans_counted_X [w, a] = some (.error "NoPlace") := by
  simp [m_plans_counted_X, mZ, g_plans_counted_X, zSeq, zErr, errOf, zCall, gCons, gVar, gNil, initS, xb1 h]
theorem xc2 (h : Okz (m_ends_at_Z [w, a])) : m_plans_counted_X [w, a] = none := by
  simp [m_plans_counted_X, mZ, g_plans_counted_X, zSeq, zErr, errOf, zCall, gCons, gVar, gNil, initS, xb2 h]
end
/-- what the law asks of the four doors -/
def door12 (d : Nat) (w a : D) (pl : D) : Option (Except Str D) := if d = 0 then orZ m_want_at_X m_want_at [w, a] else if d = 1 then orZ m_plan_at_X (asT2 m_plan_at_N2) [w, a] else if d = 2 then orZ m_plan_shows_X m_plan_shows [w, a, pl] else orZ m_plans_counted_X m_plans_counted [w, a]
theorem door_no {w a pl : D} (h : m_ends_at_Z [w, a] = some (.error "NoPlace")) (d : Nat) : door12 d w a pl = some (.error "NoPlace") := by
  unfold door12 orZ
  simp only [xw1 h, xp1 h, xs1 h, xc1 h, ite_self]
theorem small_pl {pl : D} (h : pl = .none ∨ pl = .tuple [.list [], .list []] ∨ pl = .int 5) : ∀ i xs, seqOf (atD pl i) = some xs → xs.length ≤ 1100000 := by
  intro i xs e
  rcases h with rfl | rfl | rfl
  · cases e
  · have : atD (.tuple [.list [], .list []]) i = .list [] ∨ seqOf (atD (.tuple [.list [], .list []]) i) = none := by
      match i with
      | 0 => exact .inl rfl
      | 1 => exact .inl rfl
      | i + 2 => exact .inr rfl
    rcases this with z | z
    · rw [z] at e; cases e; decide
    · rw [z] at e; cases e
  · cases e
theorem door_ok {w pl : D} {p q : Int} {ls : List Ln} (hw : Web w p ls) (h : WbOk p ls) (hl : ls.length ≤ 20) (q0 : 0 ≤ q) (q1 : q < p) (hp : pl = .none ∨ pl = .tuple [.list [], .list []] ∨ pl = .int 5) (d : Nat) : Okz (door12 d w (.int q) pl) := by
  have hz : Okz (m_ends_at_Z [w, .int q]) := z_ends_at2 hw h (by omega) (by simp [placeD]; omega)
  unfold door12 orZ
  simp only [xw2 hz, xp2 hz, xs2 hz, xc2 hz]
  obtain ⟨v, e⟩ := x_plans_counted hw hl q0 q1
  simp only [x_want_at hw (by omega) q0 q1, x_plan_at_N2 hw (by omega) q0 q1, x_plan_shows hw h q0 q1 pl (small_pl hp), e, asT2, Option.bind_some, Option.map_some]
  split
  · exact ⟨_, rfl⟩
  split
  · exact ⟨_, rfl⟩
  split
  · exact ⟨_, rfl⟩
  exact ⟨_, rfl⟩
theorem kind12 : m__law_kind_of_k12 "NoPlace" = some (.str "NoPlace") := isS_of (by decide +kernel)
theorem x_asked12 {w a : D} {p : Int} {ls : List Ln} {res : Str} (hw : Web w p ls) (hn : ls.length ≤ 1000) (d : Nat) (hd : d < 4)
    (hr : ∀ pl, (pl = .none ∨ pl = .tuple [.list [], .list []] ∨ pl = .int 5) → ∃ r, door12 d w a pl = some r ∧ (∀ c, r = .error c → c = "NoPlace") ∧ Rl.told r = res) : m__law_asked_k12 [.int (d : Int), w, a] = some (.str res) := by
  unfold m__law_asked_k12; refine mF_of ?_; walk_at "i"; unfold g__law_asked_k12
  walk_at "e"
  refine eo_try ?_
  have fin : ∀ (r : Except Str D) x4, (∀ c, r = .error c → c = "NoPlace") → Rl.told r = res → (∀ z, r = .ok z → Then (qRet (gIf (gB (gIsN 3)) (gC (.str "none")) (gCallX 3 m__law_kind_of_k12))) (Gives (.str res)) (.nx ⟨[some (.dat (.int (d : Int))), some (.dat w), some (.dat a), some (.dat .none), x4], []⟩)) ∧
      ∀ k, r = .error k → Then (qRet (gIf (gB (gIsN 3)) (gC (.str "none")) (gCallX 3 m__law_kind_of_k12))) (Gives (.str res)) (.nx ⟨[some (.dat (.int (d : Int))), some (.dat w), some (.dat a), some (.exc k), none], []⟩) := by
    intro r x4 h1 h2
    refine ⟨fun z ez => ?_, fun k ek => ?_⟩
    · subst ez
      rw [← h2]
      show Eo (qRet _ _) _
      refine eo_ret (ev_if (ev_B (ev_isN0 rfl ⟨_, rfl, ?_⟩)))
      refine split_t rfl ?_
      walk_at "e"
    · subst ek
      rw [← h2]
      show Eo (qRet _ _) _
      refine eo_ret (ev_if (ev_B (ev_isNx rfl ⟨_, rfl, ?_⟩)))
      refine split_f rfl ?_
      have hk := h1 k rfl
      subst hk
      exact ev_callX rfl kind12 rfl
  have leaf : ∀ r : Except Str D, (∀ c, r = .error c → c = "NoPlace") → Rl.told r = res → ∀ {n : Nat} {m : List D → Option (Except Str D)} {gs : M (List D)}, Ev (gs ⟨[some (.dat (.int (d : Int))), some (.dat w), some (.dat a), some (.dat .none), none], []⟩) (fun ds S1 => ds.length = n ∧ m ds = some r ∧ S1 = ⟨[some (.dat (.int (d : Int))), some (.dat w), some (.dat a), some (.dat .none), none], []⟩) →
      Oz (zDrop (zCall n m gs) ⟨[some (.dat (.int (d : Int))), some (.dat w), some (.dat a), some (.dat .none), none], []⟩) fun r => (∃ o, r = .ok o ∧ Then (qRet (gIf (gB (gIsN 3)) (gC (.str "none")) (gCallX 3 m__law_kind_of_k12))) (Gives (.str res)) o) ∨ ∃ c S1, r = .error (c, S1) ∧ c ∈ (["NoPlace"] : List Str) ∧ 4 < S1.sl.length ∧ Then (qRet (gIf (gB (gIsN 3)) (gC (.str "none")) (gCallX 3 m__law_kind_of_k12))) (Gives (.str res)) (.nx ⟨(S1.sl.set 3 (some (.exc c))).set 4 none, S1.os⟩) := by
    intro r h1 h2 n m gs ⟨ds, S1, e1, hl, hm, hS⟩
    subst hS
    obtain ⟨f1, f2⟩ := fin r none h1 h2
    exact oz_leaf ⟨ds, _, e1, hl, r, hm, fun z ez => .inl ⟨_, rfl, f1 z ez⟩, fun k ek => .inr ⟨_, _, rfl, by rw [h1 k ek]; exact List.mem_singleton.mpr rfl, Nat.le_of_ble_eq_true rfl, f2 k ek⟩⟩
  refine oz_if ?_
  walk_at "e"
  by_cases h0 : d = 0
  · obtain ⟨r, e, h1, h2⟩ := hr .none (.inl rfl)
    simp only [door12, if_pos h0] at e
    refine split_t (by simp [h0]) (leaf r h1 h2 ?_)
    walk_at "e"
    exact ⟨e, rfl⟩
  refine split_f (by simpa using h0) ?_
  refine oz_if ?_
  walk_at "e"
  by_cases h1 : d = 1
  · obtain ⟨r, e, h1', h2⟩ := hr .none (.inl rfl)
    simp only [door12, if_neg h0, if_pos h1] at e
    refine split_t (by simp [h1]) (leaf r h1' h2 ?_)
    walk_at "e"
    exact ⟨e, rfl⟩
  refine split_f (by simp; omega) ?_
  refine oz_if ?_
  walk_at "e"
  by_cases h2 : d = 2
  · refine split_t (by simp [h2]) ?_
    obtain ⟨L, s, hL⟩ := id hw
    obtain ⟨xs, sx, hl⟩ := lns_len hL
    have hm : (ls.length % 3 = 0 ∨ ls.length % 3 = 1) ∨ ls.length % 3 = 2 := by omega
    have pick : ∃ pl, (pl = .none ∨ pl = .tuple [.list [], .list []] ∨ pl = .int 5) ∧ [PyData.none, .tuple [.list [], .list []], .int 5][ls.length % 3]? = some pl := by
      rcases hm with (z | z) | z <;> rw [z]
      · exact ⟨_, .inl rfl, rfl⟩
      · exact ⟨_, .inr (.inl rfl), rfl⟩
      · exact ⟨_, .inr (.inr rfl), rfl⟩
    obtain ⟨pl, hpl, epl⟩ := pick
    obtain ⟨r, e, h1', h2'⟩ := hr pl hpl
    simp only [door12, if_neg h0, if_neg h1, if_pos h2] at e
    refine leaf r h1' h2' ?_
    walk_at "e"
    refine ed_ixQ s (by decide) rfl ?_
    walk_at "e"
    refine ed_lenQ sx ?_
    walk_at "e"
    refine ed_ixL (by omega) (by rw [← epl]; congr 1; omega) ?_
    walk_at "e"
    exact ⟨e, rfl⟩
  refine split_f (by simp; omega) ?_
  obtain ⟨r, e, h1', h2'⟩ := hr .none (.inl rfl)
  simp only [door12, if_neg h0, if_neg h1, if_neg h2] at e
  refine leaf r h1' h2' ?_
  walk_at "e"
  exact ⟨e, rfl⟩
end Cn
end

end Lw

set_option maxHeartbeats 4000000
namespace Lw
open PySem Fu
local macro_rules | `(tactic| walk_at "e1") => `(tactic| first
  | with_reducible refine eo_seq ?_ | (with_reducible refine then_nx' ?_; refine ⟨?_, ?_, ?_⟩; rotate_left; · (try dsimp only [List.set, List.length_cons, List.length_nil, List.cons_append, List.nil_append, Nat.zero_add, Nat.reduceAdd]); exact rfl) | with_reducible refine then_rt ?_ | with_reducible refine eo_if ?_ | with_reducible refine eo_ret ?_ | with_reducible refine eo_set ?_ | with_reducible refine eo_asg ?_ | with_reducible refine eo_drop ?_ | with_reducible refine eo_nx ?_ | with_reducible refine eo_par ?_ | with_reducible refine eo_own ?_ | with_reducible refine eo_retN ?_ | with_reducible refine eo_for ?_ | with_reducible refine eo_retO ?_
  | with_reducible refine ev_c ?_ | (with_reducible refine ev_var ?_; refine ⟨_, rfl, ?_⟩) | with_reducible refine ev_bin ?_ | with_reducible refine ev_un ?_ | with_reducible refine ev_nil ?_ | with_reducible refine ev_cons ?_
  | with_reducible refine ev_tup ?_ | with_reducible refine ev_lst ?_ | with_reducible refine ev_call ?_ | with_reducible refine ev_callF ?_ | with_reducible refine ev_isi ?_ | with_reducible refine ev_isi2 ?_ | with_reducible refine ev_andV ?_ | with_reducible refine ev_orV ?_ | with_reducible refine ev_notV ?_
  | with_reducible refine ev_B ?_ | with_reducible refine ev_and ?_ | with_reducible refine ev_or ?_ | with_reducible refine ev_not ?_ | with_reducible refine ev_yes ?_ | with_reducible refine ev_if ?_ | with_reducible refine ev_no ?_ | with_reducible refine ev_so ?_ | with_reducible refine ev_sl ?_ | with_reducible refine ev_items ?_
  | (with_reducible refine ev_ixO ?_; refine ⟨_, _, rfl, rfl, ?_⟩) | (with_reducible refine ev_varO ?_; refine ⟨_, _, rfl, rfl, ?_⟩) | (with_reducible refine ev_lenO ?_; refine ⟨_, _, rfl, rfl, ?_⟩) | (with_reducible refine ev_scrSl ?_; refine ⟨_, rfl, ?_⟩) | (with_reducible refine ev_scrLen ?_; refine ⟨_, rfl, ?_⟩) | (with_reducible refine ev_callScr ?_; refine ⟨_, rfl, ?_⟩) | (with_reducible refine ev_OL ?_; refine ⟨_, _, rfl, rfl, ?_⟩) | with_reducible refine ev_OR ?_ | with_reducible refine ev_rep ?_ | with_reducible refine ev_listRng1 ?_ | with_reducible refine eo_setO ?_
  | with_reducible refine es_name ?_ | with_reducible refine es_tup2 ?_ | with_reducible refine es_tup3 ?_
  | with_reducible refine ed_addI ?_ | with_reducible refine ed_subI ?_ | with_reducible refine ed_cmp ?_ | with_reducible refine ed_eqI ?_ | with_reducible refine ed_neI ?_ | with_reducible refine ed_slT ?_ | with_reducible refine ed_slL ?_ | with_reducible refine ed_lenT ?_ | with_reducible refine ed_lenL ?_ | with_reducible refine ed_lenS ?_ | with_reducible refine ed_inS ?_ | with_reducible refine ed_itT ?_ | with_reducible refine ed_itL ?_ | with_reducible refine ed_tupL ?_ | with_reducible refine ed_tupT ?_ | with_reducible refine ed_listL ?_ | with_reducible refine ed_listT ?_ | with_reducible refine ed_neg ?_ | with_reducible refine ed_max ?_ | with_reducible refine ed_min ?_ | with_reducible refine ed_intB ?_
  | with_reducible refine ev_rng1 ?_ | with_reducible refine ev_rng2 ?_)
local macro_rules | `(tactic| walk_at "sd") => `(tactic| first | rfl | assumption | (simp only [decide_eq_true_eq, decide_eq_false_iff_not, Bool.not_eq_true', Bool.not_eq_false', Bool.and_eq_true, Bool.or_eq_true, List.length_map, List.length_cons, List.length_nil, List.length_append, List.length_range] at *; omega))
local macro_rules | `(tactic| walk_at "e2") => `(tactic| first
  | walk_at "e1" | with_reducible refine ⟨_, rfl, ?_⟩ | with_reducible refine ⟨_, _, rfl, ?_⟩
  | with_reducible refine And.intro (Eq.refl (List.length _)) ?_ | with_reducible refine And.intro (Nat.le_of_ble_eq_true (n := List.length _) rfl) ?_
  | with_reducible refine And.intro (Eq.refl (_ : Sx)) (?_ : Ed _ _)
  | ((with_reducible refine And.intro ?_ (And.intro ?_ (?_ : Ev _ _))); (· rfl); (· rfl))
  | ((with_reducible refine ed_ixT ?_ ?_ ?_); (· decide); (· rfl)) | ((with_reducible refine ed_ixL ?_ ?_ ?_); (· decide); (· rfl)) | ((with_reducible refine ed_at ?_ ?_ ?_); (· decide); (· rfl))
  | ((with_reducible refine ed_modI ?_ ?_); (· first | decide | omega))
  | with_reducible exact gives_nx | ((with_reducible refine gives_rt ?_); (· rfl)) | ((with_reducible refine And.intro ?_ ?_); (· exact rfl); (· with_reducible exact Eq.refl (_ : Sx))))
local macro_rules | `(tactic| walk_at "e") => `(tactic| repeat walk_at "e2")
/-- begin a def's spec -/
local macro_rules | `(tactic| walk_at "i") => `(tactic| simp only [initS, List.map_cons, List.map_nil, List.length_cons, List.length_nil, Nat.reduceAdd, Nat.reduceSub, List.replicate, List.cons_append, List.nil_append])
/-- a known truth decides -/
local macro_rules | `(tactic| walk_at "t") => `(tactic| first | ((with_reducible refine split_t ?_ ?_); (· walk_at "sd")) | ((with_reducible refine split_t' ?_ ?_); (· walk_at "sd")))
local macro_rules | `(tactic| walk_at "f") => `(tactic| first | ((with_reducible refine split_f ?_ ?_); (· walk_at "sd")) | ((with_reducible refine split_f' ?_ ?_); (· walk_at "sd")))
/-- all that is seen in a look -/
local macro_rules | `(tactic| walk_at "v") => `(tactic| (rw [sealAll_mk (by (simp only [List.set_cons_zero, List.set_cons_succ, List.map_cons, List.map_nil, sealS_none, sealS_dat, sealS_scr, sealS_own, List.getElem?_cons_zero, List.getElem?_cons_succ, sealC_lst]; rfl)) (by (simp only [List.set_cons_zero, List.set_cons_succ, List.map_cons, List.map_nil]; rfl))]))

section
namespace Rl
theorem x__law_net_k05 {c : Nat} {most : Int} {cs : List D} (m0 : 0 ≤ most) (m1 : most ≤ 100) (hR : Reel c cs) (hc : 320 ≤ c) :
    ∃ d cs', m__law_net_k05 cs [.int most] = some (d, cs') ∧ ∃ p ls, d = wb p ls ∧ WbOk p ls ∧ p ≤ 24 ∧ ls.length ≤ most ∧ Reel (c - 320) cs' := by
  unfold m__law_net_k05; refine mIO_of ?_; walk_at "i"; unfold g__law_net_k05
  walk_at "e"
  refine ev_drawL ⟨_, rfl, ?_⟩
  walk_at "e"
  refine ⟨_, _, _, rfl, rfl, hR, by omega, by decide, by decide, fun v1 cs a1 b1 hR => ?_⟩
  walk_at "e"
  refine ev_drawL ⟨_, rfl, ?_⟩
  walk_at "e"
  refine ⟨_, _, _, rfl, rfl, hR, by omega, by decide, by decide, fun v2 cs a2 b2 hR => ?_⟩
  walk_at "e"
  refine ev_drawL ⟨_, rfl, ?_⟩
  walk_at "e"
  refine ⟨_, _, _, rfl, rfl, hR, by omega, by decide, by decide, fun v3 cs a3 b3 hR => ?_⟩
  walk_at "e"
  refine ev_drawL ⟨_, rfl, ?_⟩
  walk_at "e"
  refine ⟨_, _, _, rfl, rfl, hR, by omega, by decide, by decide, fun v4 cs a4 b4 hR => ?_⟩
  walk_at "e"
  refine ev_drawL ⟨_, rfl, ?_⟩
  walk_at "e"
  refine ⟨_, _, _, rfl, rfl, hR, by omega, by decide, by decide, fun v5 cs a5 b5 hR => ?_⟩
  refine ed_pick (P := fun d => ∃ n : Int, d = .int n ∧ 0 ≤ n ∧ n ≤ 24) a5 b5 (fun d hd => ?_) ?_
  · simp only [List.mem_cons, List.not_mem_nil, or_false] at hd
    rcases hd with rfl | rfl | rfl | rfl <;> exact ⟨_, rfl, by omega, by omega⟩
  rintro _ ⟨p, rfl, p0, p1⟩
  walk_at "e"
  refine ev_drawL ⟨_, rfl, ?_⟩
  walk_at "e"
  refine ⟨_, _, _, rfl, rfl, hR, by omega, by decide, by decide, fun v6 cs a6 b6 hR => ?_⟩
  walk_at "e"
  refine ev_drawL ⟨_, rfl, ?_⟩
  walk_at "e"
  refine ⟨_, _, _, rfl, rfl, hR, by omega, by decide, by decide, fun v7 cs a7 b7 hR => ?_⟩
  walk_at "e"
  refine ev_drawL ⟨_, rfl, ?_⟩
  walk_at "e"
  refine ⟨_, _, _, rfl, rfl, hR, by omega, by omega, by omega, fun v8 cs a8 b8 hR => ?_⟩
  walk_at "e"
  refine ev_drawL ⟨_, rfl, ?_⟩
  walk_at "e"
  refine ⟨_, _, _, rfl, rfl, hR, by omega, by decide, by decide, fun v9 cs a9 b9 hR => ?_⟩
  refine ed_pick (P := fun d => ∃ n : Int, d = .int n ∧ 0 ≤ n ∧ n ≤ 100) a9 b9 (fun d hd => ?_) ?_
  · simp only [List.mem_cons, List.not_mem_nil, or_false] at hd
    rcases hd with rfl | rfl | rfl <;> exact ⟨_, rfl, by omega, by omega⟩
  rintro _ ⟨many, rfl, n0, n1⟩
  walk_at "e"
  refine ev_drawL ⟨_, rfl, ?_⟩
  walk_at "e"
  refine ⟨_, _, _, rfl, rfl, hR, by omega, by decide, by decide, fun v10 cs a10 b10 hR => ?_⟩
  refine ed_pick (P := fun d => ∃ x : Str, d = .str x ∧ Sp.Letters x) a10 b10 (fun d hd => ?_) ?_
  · simp only [List.mem_cons, List.not_mem_nil, or_false] at hd
    rcases hd with rfl | rfl | rfl | rfl | rfl
    · exact ⟨_, rfl, some_letters (l := [97]) rfl (by decide) (by decide) (by decide)⟩
    · exact ⟨_, rfl, some_letters (l := [97, 98]) rfl (by decide) (by decide) (by decide)⟩
    · exact ⟨_, rfl, some_letters (l := [97, 97, 98]) rfl (by decide) (by decide) (by decide)⟩
    · exact ⟨_, rfl, some_letters (l := [97, 98, 99]) rfl (by decide) (by decide) (by decide)⟩
    · exact ⟨_, rfl, some_letters (l := [97, 98, 99, 100, 120, 121, 122]) rfl (by decide) (by decide) (by decide)⟩
  rintro _ ⟨word, rfl, hw⟩
  walk_at "e"
  refine ev_drawL ⟨_, rfl, ?_⟩
  walk_at "e"
  refine ⟨_, _, _, rfl, rfl, hR, by omega, by omega, by omega, fun v11 cs a11 b11 hR => ?_⟩
  walk_at "e"
  refine ed_mulI (mulW ⟨by omega, by omega⟩ ⟨by split <;> omega, by split <;> omega⟩) ?_
  walk_at "e"
  have hz : min many most * (if decide (0 < p) = true then 1 else 0) = if 0 < p then min many most else 0 := by
    by_cases h : 0 < p <;> simp [h]
  rw [hz]
  have hq : 0 ≤ (if 0 < p then min many most else 0) ∧ (if 0 < p then min many most else 0) ≤ most ∧ ((if 0 < p then min many most else 0) ≠ 0 → 0 < p) := by split <;> refine ⟨by omega, by omega, ?_⟩ <;> simp_all
  generalize (if 0 < p then min many most else 0) = q at hq
  obtain ⟨q0, q1, q2⟩ := hq
  refine ⟨by omega, by omega, ?_⟩
  refine eo_loopS 8 (fun i os => ∃ cs ls, os = [some (.lst cs), some (.lst (ls.map ln))] ∧ ls.length = i ∧ (∀ l ∈ ls, LnOk p l) ∧ Reel (c - 11 - 3 * i) cs) (Nat.le_of_ble_eq_true rfl) ⟨cs, [], rfl, rfl, (fun _ h => nomatch h), hR.mono (by omega)⟩ ?_ ?_
  · rintro i z x os hz ⟨cs, ls, rfl, hi, hall, hR⟩
    obtain ⟨hi2, rfl⟩ := rng_at hz
    have hp : 0 < p := q2 (by omega)
    walk_at "e"
    refine ev_app ⟨_, _, rfl, rfl, ?_⟩
    walk_at "e"
    refine ev_drawL ⟨_, rfl, ?_⟩
    walk_at "e"
    refine ⟨_, _, _, rfl, rfl, hR, by omega, by omega, by omega, fun x1 cs c1 d1 hR => ?_⟩
    walk_at "e"
    refine ev_drawL ⟨_, rfl, ?_⟩
    walk_at "e"
    refine ⟨_, _, _, rfl, rfl, hR, by omega, by omega, by omega, fun x2 cs c2 d2 hR => ?_⟩
    walk_at "e"
    refine ev_drawL ⟨_, rfl, ?_⟩
    walk_at "e"
    have hw0 := hw.1
    have hw1 := hw.2.1
    refine ⟨_, _, _, rfl, rfl, hR, by omega, by omega, by omega, fun x3 cs c3 d3 hR => ?_⟩
    refine ed_pickS (P := Let) c3 d3 hw.2.2 fun k kc => ?_
    walk_at "e"
    refine ⟨by simp; omega, ?_⟩
    refine ⟨_, _, rfl, cs, ls ++ [(x1, x2, k)], ?_, by simp; omega, ?_, hR.mono (by omega)⟩
    · rw [List.map_append]; rfl
    · intro l hl
      rcases List.mem_append.mp hl with hl | hl
      · exact hall l hl
      · rw [List.mem_singleton.mp hl]
        exact ⟨c1, by simp only; omega, c2, by simp only; omega, kc⟩
  · rintro x os ⟨cs, ls, rfl, hi, hall, hR⟩
    rw [rng_len] at hi hR
    walk_at "e"
    refine ⟨_, rfl, p, ls, rfl, ⟨p0, hall, by omega⟩, p1, by omega, hR.mono (by omega)⟩

end Rl
end

end Lw

set_option maxHeartbeats 4000000
namespace Lw
open PySem Fu
local macro_rules | `(tactic| walk_at "e1") => `(tactic| first
  | with_reducible refine eo_seq ?_ | (with_reducible refine then_nx' ?_; refine ⟨?_, ?_, ?_⟩; rotate_left; · (try dsimp only [List.set, List.length_cons, List.length_nil, List.cons_append, List.nil_append, Nat.zero_add, Nat.reduceAdd]); exact rfl) | with_reducible refine then_rt ?_ | with_reducible refine eo_if ?_ | with_reducible refine eo_ret ?_ | with_reducible refine eo_set ?_ | with_reducible refine eo_asg ?_ | with_reducible refine eo_drop ?_ | with_reducible refine eo_nx ?_ | with_reducible refine eo_par ?_ | with_reducible refine eo_own ?_ | with_reducible refine eo_retN ?_ | with_reducible refine eo_for ?_ | with_reducible refine eo_retO ?_
  | with_reducible refine ev_c ?_ | (with_reducible refine ev_var ?_; refine ⟨_, rfl, ?_⟩) | with_reducible refine ev_bin ?_ | with_reducible refine ev_un ?_ | with_reducible refine ev_nil ?_ | with_reducible refine ev_cons ?_
  | with_reducible refine ev_tup ?_ | with_reducible refine ev_lst ?_ | with_reducible refine ev_call ?_ | with_reducible refine ev_callF ?_ | with_reducible refine ev_isi ?_ | with_reducible refine ev_isi2 ?_ | with_reducible refine ev_andV ?_ | with_reducible refine ev_orV ?_ | with_reducible refine ev_notV ?_
  | with_reducible refine ev_B ?_ | with_reducible refine ev_and ?_ | with_reducible refine ev_or ?_ | with_reducible refine ev_not ?_ | with_reducible refine ev_yes ?_ | with_reducible refine ev_if ?_ | with_reducible refine ev_no ?_ | with_reducible refine ev_so ?_ | with_reducible refine ev_sl ?_ | with_reducible refine ev_items ?_
  | (with_reducible refine ev_ixO ?_; refine ⟨_, _, rfl, rfl, ?_⟩) | (with_reducible refine ev_varO ?_; refine ⟨_, _, rfl, rfl, ?_⟩) | (with_reducible refine ev_lenO ?_; refine ⟨_, _, rfl, rfl, ?_⟩) | (with_reducible refine ev_scrSl ?_; refine ⟨_, rfl, ?_⟩) | (with_reducible refine ev_scrLen ?_; refine ⟨_, rfl, ?_⟩) | (with_reducible refine ev_callScr ?_; refine ⟨_, rfl, ?_⟩) | (with_reducible refine ev_OL ?_; refine ⟨_, _, rfl, rfl, ?_⟩) | with_reducible refine ev_OR ?_ | with_reducible refine ev_rep ?_ | with_reducible refine ev_listRng1 ?_ | with_reducible refine eo_setO ?_
  | with_reducible refine es_name ?_ | with_reducible refine es_tup2 ?_ | with_reducible refine es_tup3 ?_
  | with_reducible refine ed_addI ?_ | with_reducible refine ed_subI ?_ | with_reducible refine ed_cmp ?_ | with_reducible refine ed_eqI ?_ | with_reducible refine ed_neI ?_ | with_reducible refine ed_slT ?_ | with_reducible refine ed_slL ?_ | with_reducible refine ed_lenT ?_ | with_reducible refine ed_lenL ?_ | with_reducible refine ed_lenS ?_ | with_reducible refine ed_inS ?_ | with_reducible refine ed_itT ?_ | with_reducible refine ed_itL ?_ | with_reducible refine ed_tupL ?_ | with_reducible refine ed_tupT ?_ | with_reducible refine ed_listL ?_ | with_reducible refine ed_listT ?_ | with_reducible refine ed_neg ?_ | with_reducible refine ed_max ?_ | with_reducible refine ed_min ?_ | with_reducible refine ed_intB ?_
  | with_reducible refine ev_rng1 ?_ | with_reducible refine ev_rng2 ?_)
local macro_rules | `(tactic| walk_at "sd") => `(tactic| first | rfl | assumption | (simp only [decide_eq_true_eq, decide_eq_false_iff_not, Bool.not_eq_true', Bool.not_eq_false', Bool.and_eq_true, Bool.or_eq_true, List.length_map, List.length_cons, List.length_nil, List.length_append, List.length_range] at *; omega))
local macro_rules | `(tactic| walk_at "e2") => `(tactic| first
  | walk_at "e1" | with_reducible refine ⟨_, rfl, ?_⟩ | with_reducible refine ⟨_, _, rfl, ?_⟩
  | with_reducible refine And.intro (Eq.refl (List.length _)) ?_ | with_reducible refine And.intro (Nat.le_of_ble_eq_true (n := List.length _) rfl) ?_
  | with_reducible refine And.intro (Eq.refl (_ : Sx)) (?_ : Ed _ _)
  | ((with_reducible refine And.intro ?_ (And.intro ?_ (?_ : Ev _ _))); (· rfl); (· rfl))
  | ((with_reducible refine ed_ixTx ?_); refine ⟨_, by decide, rfl, ?_⟩) | ((with_reducible refine ed_ixLx ?_); refine ⟨_, by decide, rfl, ?_⟩) | ((with_reducible refine es_star ?_))
  | with_reducible refine an_tt ?_ | with_reducible refine an_ft ?_ | with_reducible refine an_tf ?_ | with_reducible refine an_ff ?_ | with_reducible refine an_ntt ?_ | with_reducible refine an_nft ?_ | with_reducible refine an_ntf ?_ | with_reducible refine an_nff ?_
  | ((with_reducible refine ed_dneSelf ?_)) | ((with_reducible refine ed_deqSelf ?_))
  | ((with_reducible refine ed_ixT ?_ ?_ ?_); (· decide); (· rfl)) | ((with_reducible refine ed_ixL ?_ ?_ ?_); (· decide); (· rfl)) | ((with_reducible refine ed_at ?_ ?_ ?_); (· decide); (· rfl))
  | ((with_reducible refine ed_modI ?_ ?_); (· first | decide | omega))
  | with_reducible exact gives_nx | ((with_reducible refine gives_rt ?_); (· rfl)) | ((with_reducible refine And.intro ?_ ?_); (· exact rfl); (· with_reducible exact Eq.refl (_ : Sx))))
local macro_rules | `(tactic| walk_at "e") => `(tactic| repeat walk_at "e2")
/-- begin a def's spec -/
local macro_rules | `(tactic| walk_at "i") => `(tactic| simp only [initS, List.map_cons, List.map_nil, List.length_cons, List.length_nil, Nat.reduceAdd, Nat.reduceSub, List.replicate, List.cons_append, List.nil_append])
/-- a known truth decides -/
local macro_rules | `(tactic| walk_at "t") => `(tactic| first | ((with_reducible refine split_t ?_ ?_); (· walk_at "sd")) | ((with_reducible refine split_t' ?_ ?_); (· walk_at "sd")))
local macro_rules | `(tactic| walk_at "f") => `(tactic| first | ((with_reducible refine split_f ?_ ?_); (· walk_at "sd")) | ((with_reducible refine split_f' ?_ ?_); (· walk_at "sd")))
/-- all that is seen in a look -/
local macro_rules | `(tactic| walk_at "v") => `(tactic| (rw [sealAll_mk (by (simp only [List.set_cons_zero, List.set_cons_succ, List.map_cons, List.map_nil, sealS_none, sealS_dat, sealS_scr, sealS_own, List.getElem?_cons_zero, List.getElem?_cons_succ, sealC_lst]; rfl)) (by (simp only [List.set_cons_zero, List.set_cons_succ, List.map_cons, List.map_nil]; rfl))]))

section
end

section
end

section
open Rl
/-! #### k10: things and how they are dressed -/
def Alk (x y : D) : Prop := ∀ n m, Shw n m x → Shw n m y
/-- what is dressed in so many draws, on so many levels -/
def Drs (n k : Nat) (d : D) : Prop := ∀ c cs, Reel c cs → k ≤ c → ∃ d' cs', m__law_dressed n cs [d] = some (d', cs') ∧ Alk d d' ∧ Reel (c - k) cs'
theorem Drs.mono {n k l : Nat} {d : D} (h : Drs n k d) (hl : k ≤ l) : Drs n l d := fun c cs hR hc => by
  obtain ⟨z, cs', e, a, hR⟩ := h c cs hR (by omega)
  exact ⟨z, cs', e, a, hR.mono (by omega)⟩
/-- single things, ends, pairs -/
def At (d : D) : Prop := isT "list" d = false ∧ isT "tuple" d = false ∧ Shw 0 40 d
inductive Cd : Nat → D → Prop
  | at {n : Nat} {d : D} : At d → Cd n d
  | sq {n : Nat} {d : D} {xs : List D} : Sq d xs → xs.length ≤ 3 → (∀ x ∈ xs, Cd n x) → Cd (n + 1) d
theorem Cd.up : ∀ {n : Nat} {d : D}, Cd n d → Cd (n + 1) d
  | _, _, .at h => .at h
  | _, _, .sq s hl h => .sq s hl fun x hx => (h x hx).up
/-- a plan, or what is bent of one -/
def Pln (k : Nat) (d : D) : Prop := ∃ ps as, d = .tuple [.tuple ps, .tuple as] ∧ ps.length ≤ k ∧ as.length ≤ k ∧ (∀ x ∈ ps, Cd 2 x) ∧ ∀ x ∈ as, Cd 2 x
end

section
open Rl
/-! #### k10: plans drawn -/
end

section
open Rl
/-! #### k10: plans bent -/
def AllC (k : Nat) (ps : List D) : Prop := ps.length ≤ k ∧ ∀ x ∈ ps, Cd 2 x
theorem AllC.drop {k n : Nat} {ps : List D} (h : AllC k ps) : AllC k (ps.drop n) := ⟨by rw [List.length_drop]; have := h.1; omega, fun x hx => h.2 x (List.mem_of_mem_drop hx)⟩
theorem AllC.take {k n : Nat} {ps : List D} (h : AllC k ps) : AllC k (ps.take n) := ⟨by rw [List.length_take]; have := h.1; omega, fun x hx => h.2 x (List.mem_of_mem_take hx)⟩
theorem AllC.mono {k l : Nat} {ps : List D} (h : AllC k ps) (hl : k ≤ l) : AllC l ps := ⟨Nat.le_trans h.1 hl, h.2⟩
theorem AllC.one {d : D} (h : Cd 2 d) : AllC 1 [d] := ⟨Nat.le_refl _, fun x hx => by rw [List.mem_singleton.mp hx]; exact h⟩
theorem cutL_le (xs : List D) (lo hi : Option Int) : (cutL xs lo hi).length ≤ xs.length := by
  unfold cutL
  rw [List.length_take, List.length_drop]
  omega
end

section
open Rl
/-! #### k10: all things that are asked -/
theorem x_dr8k {c : Nat} {cs : List D} {p : Int} {ls : List Ln} (hR : Reel c cs) (hc : 2 * (ls.length + 1) + 1 ≤ c) : ∃ d' cs', m__law_dressed 8 cs [wb p ls] = some (d', cs') ∧ Web d' p ls ∧ Reel (c - (2 * (ls.length + 1) + 1)) cs' := x__law_dressed (n := 4) hR hc
theorem Pln.mono {k l : Nat} {d : D} (h : Pln k d) (hl : k ≤ l) : Pln l d := by
  obtain ⟨ps, as, rfl, l1, l2, hP, hA⟩ := h
  exact ⟨ps, as, rfl, by omega, by omega, hP, hA⟩
end

end Lw

set_option maxHeartbeats 16000000
namespace Lw.k12
open PySem PySem.Spec PyProof.Rows L2 RZ Fu Lw
variable [TabsC]
def topS (i : Nat) : Stmt := PySem.Challenge.pw_changeride_k12_wants_refused.main.body.getD i (.Pass ⟨0, 0, 0, 0⟩)
abbrev s__law_reel : Stmt := topS 36
theorem sc__law_reel : FnScope ["script", "stir", "cell", "great"] ["script"] (defScope s__law_reel) := ⟨rfl, rfl, rfl, by decide +kernel, rfl, by decide +kernel, by decide +kernel⟩
abbrev s__law_draw : Stmt := topS 37
theorem sc__law_draw : FnScope ["reel", "many", "rest", "told", "stir"] ["reel", "many"] (defScope s__law_draw) := ⟨rfl, rfl, rfl, by decide +kernel, rfl, by decide +kernel, by decide +kernel⟩
abbrev s__law_dressed : Stmt := topS 39
theorem sc__law_dressed : FnScope ["reel", "thing", "found", "one"] ["reel", "thing"] (defScope s__law_dressed) := ⟨rfl, rfl, rfl, by decide +kernel, rfl, by decide +kernel, by decide +kernel⟩
abbrev s__law_net : Stmt := topS 38
theorem sc__law_net : FnScope ["reel", "most", "some", "places", "many", "letters", "wide", "found", "k"] ["reel", "most"] (defScope s__law_net) := ⟨rfl, rfl, rfl, by decide +kernel, rfl, by decide +kernel, by decide +kernel⟩
abbrev s__law_kind_of : Stmt := topS 40
theorem sc__law_kind_of : FnScope ["e", "kinds", "met", "name", "so"] ["e"] (defScope s__law_kind_of) := ⟨rfl, rfl, rfl, by decide +kernel, rfl, by decide +kernel, by decide +kernel⟩
abbrev s_want_of : Stmt := topS 26
theorem sc_want_of : FnScope ["sizes", "many", "size"] ["sizes"] (defScope s_want_of) := ⟨rfl, rfl, rfl, by decide +kernel, rfl, by decide +kernel, by decide +kernel⟩
abbrev s_is_whole : Stmt := topS 16
theorem sc_is_whole : FnScope ["thing"] ["thing"] (defScope s_is_whole) := ⟨rfl, rfl, rfl, by decide +kernel, rfl, by decide +kernel, by decide +kernel⟩
abbrev s_need_place : Stmt := topS 18
theorem sc_need_place : FnScope ["web", "place"] ["web", "place"] (defScope s_need_place) := ⟨rfl, rfl, rfl, by decide +kernel, rfl, by decide +kernel, by decide +kernel⟩
abbrev s_all_ends : Stmt := topS 22
theorem sc_all_ends : FnScope ["web", "line", "side"] ["web"] (defScope s_all_ends) := ⟨rfl, rfl, rfl, by decide +kernel, rfl, by decide +kernel, by decide +kernel⟩
abbrev s_place_of : Stmt := topS 20
theorem sc_place_of : FnScope ["web", "end"] ["web", "end"] (defScope s_place_of) := ⟨rfl, rfl, rfl, by decide +kernel, rfl, by decide +kernel, by decide +kernel⟩
abbrev s_ends_at : Stmt := topS 23
theorem sc_ends_at : FnScope ["web", "place", "end"] ["web", "place"] (defScope s_ends_at) := ⟨rfl, rfl, rfl, by decide +kernel, rfl, by decide +kernel, by decide +kernel⟩
abbrev s_company_of : Stmt := topS 21
theorem sc_company_of : FnScope ["web", "end"] ["web", "end"] (defScope s_company_of) := ⟨rfl, rfl, rfl, by decide +kernel, rfl, by decide +kernel, by decide +kernel⟩
abbrev s_by_companies : Stmt := topS 25
theorem sc_by_companies : FnScope ["web", "place", "found", "end"] ["web", "place"] (defScope s_by_companies) := ⟨rfl, rfl, rfl, by decide +kernel, rfl, by decide +kernel, by decide +kernel⟩
abbrev s_want_at : Stmt := topS 27
theorem sc_want_at : FnScope ["web", "place", "ends"] ["web", "place"] (defScope s_want_at) := ⟨rfl, rfl, rfl, by decide +kernel, rfl, by decide +kernel, by decide +kernel⟩
abbrev s_plan_at : Stmt := topS 28
theorem sc_plan_at : FnScope ["web", "place", "groups", "want", "row", "alone", "rest", "half", "ends", "end"] ["web", "place"] (defScope s_plan_at) := ⟨rfl, rfl, rfl, by decide +kernel, rfl, by decide +kernel, by decide +kernel⟩
abbrev s_is_row : Stmt := topS 17
theorem sc_is_row : FnScope ["thing", "size"] ["thing", "size"] (defScope s_is_row) := ⟨rfl, rfl, rfl, by decide +kernel, rfl, by decide +kernel, by decide +kernel⟩
abbrev s_is_end : Stmt := topS 19
theorem sc_is_end : FnScope ["web", "thing"] ["web", "thing"] (defScope s_is_end) := ⟨rfl, rfl, rfl, by decide +kernel, rfl, by decide +kernel, by decide +kernel⟩
abbrev s_are_pairs : Stmt := topS 29
theorem sc_are_pairs : FnScope ["web", "place", "pairs", "pair"] ["web", "place", "pairs"] (defScope s_are_pairs) := ⟨rfl, rfl, rfl, by decide +kernel, rfl, by decide +kernel, by decide +kernel⟩
abbrev s_plan_shows : Stmt := topS 30
theorem sc_plan_shows : FnScope ["web", "place", "plan", "due", "told", "end", "pair"] ["web", "place", "plan"] (defScope s_plan_shows) := ⟨rfl, rfl, rfl, by decide +kernel, rfl, by decide +kernel, by decide +kernel⟩
abbrev s_multiplied : Stmt := topS 31
theorem sc_multiplied : FnScope ["one", "other", "found", "at", "number", "more", "factor"] ["one", "other"] (defScope s_multiplied) := ⟨rfl, rfl, rfl, by decide +kernel, rfl, by decide +kernel, by decide +kernel⟩
abbrev s_within_company : Stmt := topS 32
theorem sc_within_company : FnScope ["size", "found", "pairs", "left"] ["size"] (defScope s_within_company) := ⟨rfl, rfl, rfl, by decide +kernel, rfl, by decide +kernel, by decide +kernel⟩
abbrev s_all_paired : Stmt := topS 33
theorem sc_all_paired : FnScope ["many", "found", "odd"] ["many"] (defScope s_all_paired) := ⟨rfl, rfl, rfl, by decide +kernel, rfl, by decide +kernel, by decide +kernel⟩
abbrev s_plans_counted : Stmt := topS 34
theorem sc_plans_counted : FnScope ["web", "place", "sizes", "many", "signed", "size", "ends", "pairs", "number"] ["web", "place"] (defScope s_plans_counted) := ⟨rfl, rfl, rfl, by decide +kernel, rfl, by decide +kernel, by decide +kernel⟩
abbrev s__law_asked : Stmt := topS 41
theorem sc__law_asked : FnScope ["door", "net", "place", "caught", "e"] ["door", "net", "place"] (defScope s__law_asked) := ⟨rfl, rfl, rfl, by decide +kernel, rfl, by decide +kernel, by decide +kernel⟩
abbrev s_law : Stmt := topS 42
theorem sc_law : FnScope ["script", "reel", "k", "net", "some", "rows", "place", "due", "door"] ["script"] (defScope s_law) := ⟨rfl, rfl, rfl, by decide +kernel, rfl, by decide +kernel, by decide +kernel⟩
def g_law : Sx → Option Out :=
  (qSeq (qOwn 1 (gCallScr 0 m__law_reel)) (qSeq (qFor (gRng1 (gCons (gBin dAdd (gC (.int 1)) (gCall dMin2 (gCons (gScrLen 0) (gCons (gC (.int 11)) gNil)))) gNil)) (sName 2) (qSeq (qSet 3 (gIO 1 1 (m__law_dressed 8) (gCons (gIO 1 1 m__law_net_k05 (gCons (gC (.int 20)) gNil)) gNil))) (qSeq (qSet 4 (gLst (gCons (gUn dNeg (gC (.int 1))) (gCons (gBin dIx (gVar 3) (gC (.int 0))) (gCons (gBin dAdd (gBin dIx (gVar 3) (gC (.int 0))) (gBin dPow (gC (.int 10)) (gC (.int 20)))) (gCons (gC (.bool true)) (gCons (gC (.bool false)) (gCons (gC .none) (gCons (gC (.str "0")) (gCons (gTup (gCons (gC (.int 0)) gNil)) (gCons (gLst (gCons (gC (.int 0)) gNil)) (gCons (gC (.str "")) gNil)))))))))))) (qSeq (qSet 5 (gBin dAdd (gLc (gItems (gVar 4)) (sName 6) gYes (gTup (gCons (gVar 6) (gCons (gC (.str "NoPlace")) gNil))) [6]) (gLc (gRng1 (gCons (gBin dIx (gVar 3) (gC (.int 0))) gNil)) (sName 6) gYes (gTup (gCons (gVar 6) (gCons (gC (.str "none")) gNil))) [6]))) (qFor (gItems (gVar 5)) (sTup 2 (sCons (sName 6) (sCons (sName 7) sNil))) (qIf (gB (gBin dNe (gLc (gRng1 (gCons (gC (.int 4)) gNil)) (sName 8) (gB (gBin dNe (gCallF 3 m__law_asked_k12 (gCons (gVar 8) (gCons (gVar 3) (gCons (gVar 6) gNil)))) (gVar 7))) (gVar 8) [8]) (gLst gNil))) (qRet (gC (.bool false))) qNx)))))) (qRet (gC (.bool true)))))
structure Tx (K : PySem.W.Frag) (mg : Str → Option Value) (base : Heap) : Prop where
  tabs : ∀ p ∈ TabsC.C, LamX.TabB base mg p.1 p.2
  z_ValueError : mg "ValueError" = none
  z_all : mg "all" = none
  z_bool : mg "bool" = none
  z_enumerate : mg "enumerate" = none
  z_int : mg "int" = none
  z_isinstance : mg "isinstance" = none
  z_len : mg "len" = none
  z_list : mg "list" = none
  z_max : mg "max" = none
  z_min : mg "min" = none
  z_range : mg "range" = none
  z_sorted : mg "sorted" = none
  z_sum : mg "sum" = none
  z_tuple : mg "tuple" = none
  z_zip : mg "zip" = none
  c_SIDES : ∃ t, mg "SIDES" = some (.int 2 t)
  d__law_reel : DefAt K mg "_law_reel" s__law_reel ["script"]
  d__law_draw : DefAt K mg "_law_draw" s__law_draw ["reel", "many"]
  d__law_dressed : DefAt K mg "_law_dressed" s__law_dressed ["reel", "thing"]
  d__law_net : DefAt K mg "_law_net" s__law_net ["reel", "most"]
  d__law_kind_of : DefAt K mg "_law_kind_of" s__law_kind_of ["e"]
  d_want_of : DefAt K mg "want_of" s_want_of ["sizes"]
  d_is_whole : DefAt K mg "is_whole" s_is_whole ["thing"]
  d_need_place : DefAt K mg "need_place" s_need_place ["web", "place"]
  d_all_ends : DefAt K mg "all_ends" s_all_ends ["web"]
  d_place_of : DefAt K mg "place_of" s_place_of ["web", "end"]
  d_ends_at : DefAt K mg "ends_at" s_ends_at ["web", "place"]
  d_company_of : DefAt K mg "company_of" s_company_of ["web", "end"]
  d_by_companies : DefAtT K mg "by_companies" s_by_companies ["web", "place"]
  d_want_at : DefAt K mg "want_at" s_want_at ["web", "place"]
  d_plan_at : DefAt K mg "plan_at" s_plan_at ["web", "place"]
  d_is_row : DefAt K mg "is_row" s_is_row ["thing", "size"]
  d_is_end : DefAt K mg "is_end" s_is_end ["web", "thing"]
  d_are_pairs : DefAt K mg "are_pairs" s_are_pairs ["web", "place", "pairs"]
  d_plan_shows : DefAt K mg "plan_shows" s_plan_shows ["web", "place", "plan"]
  d_multiplied : DefAt K mg "multiplied" s_multiplied ["one", "other"]
  d_within_company : DefAt K mg "within_company" s_within_company ["size"]
  d_all_paired : DefAt K mg "all_paired" s_all_paired ["many"]
  d_plans_counted : DefAt K mg "plans_counted" s_plans_counted ["web", "place"]
  d__law_asked : DefAt K mg "_law_asked" s__law_asked ["door", "net", "place"]
  d_law : DefAt K mg "law" s_law ["script"]
  x_NoPlace : ExcT K mg "NoPlace"
  i_NoCompany : LookT K mg "NoCompany" ["NoPlace"] fun c => decide (c = "NoCompany")
  i_NoEnd : LookT K mg "NoEnd" ["NoPlace"] fun c => decide (c = "NoEnd")
  i_NoForm : LookT K mg "NoForm" ["NoPlace"] fun c => decide (c = "NoForm")
  i_NoLine : LookT K mg "NoLine" ["NoPlace"] fun c => decide (c = "NoLine")
  i_NoNumber : LookT K mg "NoNumber" ["NoPlace"] fun c => decide (c = "NoNumber")
  i_NoPlace : LookT K mg "NoPlace" ["NoPlace"] fun c => decide (c = "NoPlace")
  i_NoRide : LookT K mg "NoRide" ["NoPlace"] fun c => decide (c = "NoRide")
  i_NoText : LookT K mg "NoText" ["NoPlace"] fun c => decide (c = "NoText")
  i_NoTurning : LookT K mg "NoTurning" ["NoPlace"] fun c => decide (c = "NoTurning")
  i_NoWeb : LookT K mg "NoWeb" ["NoPlace"] fun c => decide (c = "NoWeb")
  i_NoneYet : LookT K mg "NoneYet" ["NoPlace"] fun c => decide (c = "NoneYet")
  i_TooMany : LookT K mg "TooMany" ["NoPlace"] fun c => decide (c = "TooMany")
  b_ValueError : ∀ c ∈ (["NoPlace"] : List Str), ExcIs K c (.type "ValueError") true
  t_RideError : TryT K mg "RideError" ["NoPlace"]
section
variable {P : Program} {w : World} {K : PySem.W.Frag} {mg : Str → Option Value} {base : Heap}
theorem has__law_reel (T : Tx K mg base) : Has P w K mg base "_law_reel" 1 ["script"] (spScrN K m__law_reel) := has_scrN T.d__law_reel sc__law_reel (by rfl) (by decide) fun f cdv A outer s H E hr =>
  (ss_cons (s_set 1 sc__law_reel.nd (e_pow e_int e_int)) (ss_cons (s_for PassesOwn.never (i_any (e_scrSl 0 o_none (o_some e_int))) (g_name 2 sc__law_reel.nd) (ss_one (s_set 1 sc__law_reel.nd (e_mod (e_add (e_add (e_mul (e_var 1) (e_var 1)) (e_mod (e_var 2) e_int)) e_int) (e_sub (e_mul (e_pow e_int e_int) (e_pow e_int e_int)) e_int)))) (fun _ => trivial)) (ss_cons (s_setLc (lc1 3 [("cell", 2)] sc__law_reel.nd (i_any (e_scrSl 0 o_none (o_some e_int))) (blkOk_by (N := ["script", "stir", "cell", "great"]) (sc := defScope s__law_reel) (by decide +kernel)) (fun _ _ _ _ _ => (g_name 2 sc__law_reel.nd)) (fun _ _ _ _ _ => (ts_one (t_ge (e_var 2) (e_pow e_int e_int)))) (fun _ _ _ _ _ => (e_sub (e_var 2) (e_pow e_int e_int))))) (ss_one (s_retNew (n_lst (a_cons (e_var 3) (a_cons (e_add (n_lc [("cell", 2)] sc__law_reel.nd (i_any (e_scrSl 0 o_none (o_some e_int))) (blkOk_by (N := ["script", "stir", "cell", "great"]) (sc := defScope s__law_reel) (by decide +kernel)) (fun _ _ _ _ _ => (g_name 2 sc__law_reel.nd)) (fun _ _ _ _ _ => ts_nil) (fun _ _ _ _ _ => (e_mod (e_var 2) e_int))).e (e_lst (a_cons e_int a_nil))) (a_cons e_int (a_cons (e_var 1) a_nil))))))))))
theorem has__law_draw (T : Tx K mg base) : Has P w K mg base "_law_draw" 1 ["reel", "many"] (spIO K 1 m__law_draw) := has_io T.d__law_draw sc__law_draw (by rfl) (by decide) fun f cdv A outer s H E hr =>
  (ss_cons (s_if (t_ne hr.units (e_ixO 0 e_int) (e_lst a_nil)) (ss_cons (s_set 2 sc__law_draw.nd (e_ix (e_ixO 0 e_int) e_int)) (ss_cons (s_setO 0 e_int (e_add (e_mul (e_lst (a_cons (e_div (e_var 2) (e_var 1)) a_nil)) (e_intOf T.z_int (a_cons (e_ge (e_var 2) (e_var 1)) a_nil))) (e_sl (e_ixO 0 e_int) (o_some e_int) o_none))) (ss_one (s_ret (e_mod (e_var 2) (e_var 1)))))) ss_nil) (ss_cons (s_setO 0 e_int (e_add (e_ixO 0 e_int) e_int)) (ss_cons (s_set 3 sc__law_draw.nd (e_ix (e_ixO 0 e_int) (e_mod (e_ixO 0 e_int) (e_len T.z_len (a_cons (e_ixO 0 e_int) a_nil))))) (ss_cons (s_set 4 sc__law_draw.nd (e_add (e_add (e_mul (e_ixO 0 e_int) (e_ixO 0 e_int)) (e_mul (e_add (e_var 3) e_int) e_int)) (e_mul (e_ixO 0 e_int) e_int))) (ss_cons (s_setO 0 e_int (e_mod (e_var 4) (e_sub (e_mul (e_pow e_int e_int) (e_pow e_int e_int)) e_int))) (ss_one (s_ret (e_mod (e_div (e_ixO 0 e_int) (e_pow e_int e_int)) (e_var 1)))))))))
theorem has__law_dressed (T : Tx K mg base) : ∀ n, Has P w K mg base "_law_dressed" (1 + n) ["reel", "thing"] (spIO K 1 (m__law_dressed n))
  | 0 => has_none_io T.d__law_dressed (by rfl)
  | n + 1 => have ih := has__law_dressed T n
    has_io T.d__law_dressed sc__law_dressed (by rfl) (by decide) fun f cdv A outer s H E hr =>
  (ss_cons (s_if (t_val (e_isi T.z_isinstance T.z_tuple (by decide +kernel) kit_tuple (e_var 1))) (ss_cons (s_setLc (lc1 2 [("one", 3)] sc__law_dressed.nd (i_any (e_var 1)) (blkOk_by (N := ["reel", "thing", "found", "one"]) (sc := defScope s__law_dressed) (by decide +kernel)) (fun _ _ _ _ _ => (g_name 3 sc__law_dressed.nd)) (fun _ _ _ _ _ => ts_nil) (fun _ _ _ _ _ => (e_callHIO 0 ih hr (a_cons (e_var 3) a_nil))))) (ss_one (s_ret (e_if (t_eq hr.units (e_callHIO 0 (has__law_draw T) (hr.mono (by first | omega | (simp only [Nat.add_eq]; omega))) (a_cons e_int a_nil)) e_int) (e_var 2) (e_tuple T.z_tuple (a_cons (e_var 2) a_nil)))))) ss_nil) (ss_one (s_ret (e_var 1))))
theorem has__law_net (T : Tx K mg base) : Has P w K mg base "_law_net" 2 ["reel", "most"] (spIO K 1 m__law_net_k05) := has_io T.d__law_net sc__law_net (by rfl) (by decide) fun f cdv A outer s H E hr =>
  (ss_cons (s_set 2 sc__law_net.nd (e_lst (a_cons (e_callHIO 0 (has__law_draw T) (hr.mono (by decide)) (a_cons e_int a_nil)) (a_cons (e_add e_int (e_callHIO 0 (has__law_draw T) (hr.mono (by decide)) (a_cons e_int a_nil))) (a_cons (e_add e_int (e_callHIO 0 (has__law_draw T) (hr.mono (by decide)) (a_cons e_int a_nil))) (a_cons (e_callHIO 0 (has__law_draw T) (hr.mono (by decide)) (a_cons e_int a_nil)) a_nil)))))) (ss_cons (s_set 3 sc__law_net.nd (e_ix (e_var 2) (e_callHIO 0 (has__law_draw T) (hr.mono (by decide)) (a_cons e_int a_nil)))) (ss_cons (s_set 4 sc__law_net.nd (e_ix (e_lst (a_cons (e_callHIO 0 (has__law_draw T) (hr.mono (by decide)) (a_cons e_int a_nil)) (a_cons (e_callHIO 0 (has__law_draw T) (hr.mono (by decide)) (a_cons e_int a_nil)) (a_cons (e_callHIO 0 (has__law_draw T) (hr.mono (by decide)) (a_cons (e_add (e_var 1) e_int) a_nil)) a_nil)))) (e_callHIO 0 (has__law_draw T) (hr.mono (by decide)) (a_cons e_int a_nil)))) (ss_cons (s_set 5 sc__law_net.nd (e_ix (e_lst (a_cons e_str (a_cons e_str (a_cons e_str (a_cons e_str (a_cons e_str a_nil)))))) (e_callHIO 0 (has__law_draw T) (hr.mono (by decide)) (a_cons e_int a_nil)))) (ss_cons (s_set 6 sc__law_net.nd (e_add e_int (e_callHIO 0 (has__law_draw T) (hr.mono (by decide)) (a_cons (e_max2 T.z_max (a_cons e_int (a_cons (e_var 3) a_nil))) a_nil)))) (ss_cons (s_own 7 sc__law_net.nd (n_lst a_nil)) (ss_cons (s_for0 PassesOwn.never (i0_range1 T.z_range (a_cons (e_mul (e_min2 T.z_min (a_cons (e_var 4) (a_cons (e_var 1) a_nil))) (e_intOf T.z_int (a_cons (e_gt (e_var 3) e_int) a_nil))) a_nil)) (g_name 8 sc__law_net.nd) (ss_one (s_expr (e_append 7 (e_tup (a_cons (e_callHIO 0 (has__law_draw T) (hr.mono (by decide)) (a_cons (e_var 6) a_nil)) (a_cons (e_callHIO 0 (has__law_draw T) (hr.mono (by decide)) (a_cons (e_var 6) a_nil)) (a_cons (e_ix (e_var 5) (e_callHIO 0 (has__law_draw T) (hr.mono (by decide)) (a_cons (e_len T.z_len (a_cons (e_var 5) a_nil)) a_nil))) a_nil)))))))) (ss_one (s_ret (e_tup (a_cons (e_var 3) (a_cons (e_tuple T.z_tuple (a_cons (e_var 7) a_nil)) a_nil))))))))))))
theorem has__law_kind_of (T : Tx K mg base) : Has P w K mg base "_law_kind_of" 1 ["e"] (spX K m__law_kind_of_k12) := has_exc T.d__law_kind_of sc__law_kind_of (by rfl) (by decide) fun f cdv A outer s H E hr =>
  (ss_cons (s_set 1 sc__law_kind_of.nd (e_lst (a_cons (e_tup (a_cons e_str (a_cons (e_isET 0 T.z_isinstance T.i_NoWeb) a_nil))) (a_cons (e_tup (a_cons e_str (a_cons (e_isET 0 T.z_isinstance T.i_NoPlace) a_nil))) a_nil)))) (ss_cons (s_set 1 sc__law_kind_of.nd (e_add (e_var 1) (e_lst (a_cons (e_tup (a_cons e_str (a_cons (e_isET 0 T.z_isinstance T.i_NoCompany) a_nil))) (a_cons (e_tup (a_cons e_str (a_cons (e_isET 0 T.z_isinstance T.i_NoLine) a_nil))) a_nil))))) (ss_cons (s_set 1 sc__law_kind_of.nd (e_add (e_var 1) (e_lst (a_cons (e_tup (a_cons e_str (a_cons (e_isET 0 T.z_isinstance T.i_NoEnd) a_nil))) (a_cons (e_tup (a_cons e_str (a_cons (e_isET 0 T.z_isinstance T.i_NoRide) a_nil))) a_nil))))) (ss_cons (s_set 1 sc__law_kind_of.nd (e_add (e_var 1) (e_lst (a_cons (e_tup (a_cons e_str (a_cons (e_isET 0 T.z_isinstance T.i_NoNumber) a_nil))) (a_cons (e_tup (a_cons e_str (a_cons (e_isET 0 T.z_isinstance T.i_NoTurning) a_nil))) a_nil))))) (ss_cons (s_set 1 sc__law_kind_of.nd (e_add (e_var 1) (e_lst (a_cons (e_tup (a_cons e_str (a_cons (e_isET 0 T.z_isinstance T.i_TooMany) a_nil))) (a_cons (e_tup (a_cons e_str (a_cons (e_isET 0 T.z_isinstance T.i_NoText) a_nil))) a_nil))))) (ss_cons (s_set 1 sc__law_kind_of.nd (e_add (e_var 1) (e_lst (a_cons (e_tup (a_cons e_str (a_cons (e_isET 0 T.z_isinstance T.i_NoForm) a_nil))) (a_cons (e_tup (a_cons e_str (a_cons (e_isET 0 T.z_isinstance T.i_NoneYet) a_nil))) a_nil))))) (ss_cons (s_setLc (lc1 2 [("name", 3), ("so", 4)] sc__law_kind_of.nd (i_any (e_var 1)) (blkOk_by (N := ["e", "kinds", "met", "name", "so"]) (sc := defScope s__law_kind_of) (by decide +kernel)) (fun _ _ _ _ _ => (g_tup (gs_cons (g_name 3 sc__law_kind_of.nd) (gs_cons (g_name 4 sc__law_kind_of.nd) gs_nil)))) (fun _ _ _ _ _ => (ts_one (t_val (e_var 4)))) (fun _ _ _ _ _ => (e_var 3)))) (ss_one (s_ret (e_if (t_w (w_and (t_eq hr.units (e_len T.z_len (a_cons (e_var 2) a_nil)) e_int) (w_and1 (t_val (e_isEB 0 ["NoPlace"] T.z_isinstance T.z_ValueError (by decide +kernel) T.b_ValueError))))) (e_ix (e_var 2) e_int) e_str))))))))))
theorem has_want_of (T : Tx K mg base) : Has P w K mg base "want_of" 1 ["sizes"] (spF K 1 m_want_of) := has_pure T.d_want_of sc_want_of (by rfl) (by decide) fun f cdv A outer s H E hr =>
  (ss_cons (s_set 1 sc_want_of.nd (e_sum T.z_sum (a_cons (e_var 0) a_nil))) (ss_one (s_ret (e_max hr T.z_max (a_cons (e_add (e_lst (a_cons (e_mod (e_var 1) e_int) a_nil)) (n_lc [("size", 2)] sc_want_of.nd (i_any (e_var 0)) (blkOk_by (N := ["sizes", "many", "size"]) (sc := defScope s_want_of) (by decide +kernel)) (fun _ _ _ _ _ => (g_name 2 sc_want_of.nd)) (fun _ _ _ _ _ => ts_nil) (fun _ _ _ _ _ => (e_sub (e_mul e_int (e_var 2)) (e_var 1)))).e) a_nil)))))
theorem has_is_whole (T : Tx K mg base) : Has P w K mg base "is_whole" 1 ["thing"] (spF K 1 m_is_whole) := has_pure T.d_is_whole sc_is_whole (by rfl) (by decide) fun f cdv A outer s H E hr =>
  (ss_one (s_ret (e_and (e_isi T.z_isinstance T.z_int (by decide +kernel) kit_int (e_var 0)) (e_and (e_not (e_isi T.z_isinstance T.z_bool (by decide +kernel) kit_bool (e_var 0))) (e_one (e_ge (e_var 0) e_int))))))
theorem has_need_place (T : Tx K mg base) : Has P w K mg base "need_place" 2 ["web", "place"] (spF K 2 m_need_place) := has_pure T.d_need_place sc_need_place (by rfl) (by decide) fun f cdv A outer s H E hr =>
  (ss_one (s_if (t_w (w_or (t_not (t_val (e_callH (has_is_whole T) (hr.mono (by decide)) (a_cons (e_var 1) a_nil)))) (w_or1 (t_ge (e_var 1) (e_ix (e_var 0) e_int))))) (ss_one s_never) ss_nil))
theorem hasz_need_place (T : Tx K mg base) : HasZ P w K mg base "need_place" 2 ["web", "place"] (spZ K 2 m_need_place_Z) := has_z T.d_need_place sc_need_place (by rfl) (by decide) fun f cdv A outer s H E hr tk =>
  (zs_one (z_if (t_w (w_or (t_not (t_val (e_callH (has_is_whole T) (hr.mono (by decide)) (a_cons (e_var 1) a_nil)))) (w_or1 (t_ge (e_var 1) (e_ix (e_var 0) e_int))))) (zs_one (z_raise T.x_NoPlace tk)) (zs_of ss_nil)))
theorem has_all_ends (T : Tx K mg base) : Has P w K mg base "all_ends" 1 ["web"] (spF K 1 m_all_ends) := has_pure T.d_all_ends sc_all_ends (by rfl) (by decide) fun f cdv A outer s H E hr =>
  (ss_one (s_ret (n_lc2 [("line", 1), ("side", 2)] [2] sc_all_ends.nd (i_range1 T.z_range (a_cons (e_len T.z_len (a_cons (e_ix (e_var 0) e_int) a_nil)) a_nil)) (blkOk_by (N := ["web", "line", "side"]) (sc := defScope s_all_ends) (by decide +kernel)) (fun _ _ _ _ _ => (g_name 1 sc_all_ends.nd)) (fun _ _ _ _ _ => ts_nil) (fun _ _ _ _ _ => (i_range1 T.z_range (a_cons (e_gintE T.c_SIDES) a_nil))) (fun _ _ _ _ _ => (g_name 2 sc_all_ends.nd)) (fun _ _ _ _ _ => ts_nil) (fun _ _ _ _ _ => (e_tup (a_cons (e_var 1) (a_cons (e_var 2) a_nil))))).e))
theorem has_place_of (T : Tx K mg base) : Has P w K mg base "place_of" 1 ["web", "end"] (spF K 2 m_place_of) := has_pure T.d_place_of sc_place_of (by rfl) (by decide) fun f cdv A outer s H E hr =>
  (ss_one (s_ret (e_ix (e_ix (e_ix (e_var 0) e_int) (e_ix (e_var 1) e_int)) (e_ix (e_var 1) e_int))))
theorem has_ends_at (T : Tx K mg base) : Has P w K mg base "ends_at" 3 ["web", "place"] (spF K 2 m_ends_at) := has_pure T.d_ends_at sc_ends_at (by rfl) (by decide) fun f cdv A outer s H E hr =>
  (ss_cons (s_expr (e_callH (has_need_place T) (hr.mono (by decide)) (a_cons (e_var 0) (a_cons (e_var 1) a_nil)))) (ss_one (s_ret (n_lc [("end", 2)] sc_ends_at.nd (i_any (e_callH (has_all_ends T) (hr.mono (by decide)) (a_cons (e_var 0) a_nil))) (blkOk_by (N := ["web", "place", "end"]) (sc := defScope s_ends_at) (by decide +kernel)) (fun _ _ _ _ _ => (g_name 2 sc_ends_at.nd)) (fun _ _ _ _ _ => (ts_one (t_eq hr.units (e_callH (has_place_of T) (hr.mono (by decide)) (a_cons (e_var 0) (a_cons (e_var 2) a_nil))) (e_var 1)))) (fun _ _ _ _ _ => (e_var 2))).e)))
theorem hasz_ends_at (T : Tx K mg base) : HasZ P w K mg base "ends_at" 3 ["web", "place"] (spZ K 2 m_ends_at_Z) := has_z T.d_ends_at sc_ends_at (by rfl) (by decide) fun f cdv A outer s H E hr tk =>
  (zs_cons (z_expr (ez_call (hasz_need_place T) (hr.mono (by decide)) tk (a_cons (e_var 0) (a_cons (e_var 1) a_nil)))) (zs_of (ss_one (s_ret (n_lc [("end", 2)] sc_ends_at.nd (i_any (e_callH (has_all_ends T) (hr.mono (by decide)) (a_cons (e_var 0) a_nil))) (blkOk_by (N := ["web", "place", "end"]) (sc := defScope s_ends_at) (by decide +kernel)) (fun _ _ _ _ _ => (g_name 2 sc_ends_at.nd)) (fun _ _ _ _ _ => (ts_one (t_eq hr.units (e_callH (has_place_of T) (hr.mono (by decide)) (a_cons (e_var 0) (a_cons (e_var 2) a_nil))) (e_var 1)))) (fun _ _ _ _ _ => (e_var 2))).e))))
theorem has_company_of (T : Tx K mg base) : Has P w K mg base "company_of" 1 ["web", "end"] (spF K 2 m_company_of) := has_pure T.d_company_of sc_company_of (by rfl) (by decide) fun f cdv A outer s H E hr =>
  (ss_one (s_ret (e_ix (e_ix (e_ix (e_var 0) e_int) (e_ix (e_var 1) e_int)) e_int)))
theorem has_by_companies (T : Tx K mg base) : Has P w K mg base "by_companies" 4 ["web", "place"] (spN K 2 m_by_companies_N) := has_newT T.d_by_companies T.tabs sc_by_companies (by rfl) (by decide) fun c Q TB hmT hu f A outer s H E hr =>
  (ss_cons (s_dict0 2 sc_by_companies.nd) (ss_cons (s_for PassesOwn.never (i_any (e_callH (has_ends_at T) (hr.mono (by decide)) (a_cons (e_var 0) (a_cons (e_var 1) a_nil)))) (g_name 3 sc_by_companies.nd) (ss_one (s_expr (e_setdApp 2 3 (e_callH (has_company_of T) (hr.mono (by decide)) (a_cons (e_var 0) (a_cons (e_var 3) a_nil)))))) (fun _ => trivial)) (ss_one (s_retNew (n_sortV (i := 2) hr TB rfl hmT hu T.z_sorted T.z_len)))))
theorem hasx_by_companies (T : Tx K mg base) : HasZ P w K mg base "by_companies" 4 ["web", "place"] (spZ K 2 m_by_companies_X) := has_z (DefAtT.at T.d_by_companies) sc_by_companies (by rfl) (by decide) fun f cdv A outer s H E hr tk =>
  (zs_cons (z_of (s_dict0 2 sc_by_companies.nd)) (zs_cons (z_forX (passes_of rfl) (ixx_any (ez_call (hasz_ends_at T) (hr.mono (by decide)) tk (a_cons (e_var 0) (a_cons (e_var 1) a_nil)))) (g_name 3 sc_by_companies.nd) (ss_one (s_expr (e_setdApp 2 3 (e_callH (has_company_of T) (hr.mono (by decide)) (a_cons (e_var 0) (a_cons (e_var 3) a_nil))))))) (zs_of (ss_one s_never))))
theorem has_want_at (T : Tx K mg base) : Has P w K mg base "want_at" 5 ["web", "place"] (spF K 2 m_want_at) := has_pure T.d_want_at sc_want_at (by rfl) (by decide) fun f cdv A outer s H E hr =>
  (ss_one (s_ret (e_callH (has_want_of T) (hr.mono (by decide)) (a_cons (n_lc [("ends", 2)] sc_want_at.nd (i_any (n_callH (has_by_companies T) (hr.mono (by decide)) (a_cons (e_var 0) (a_cons (e_var 1) a_nil))).e) (blkOk_by (N := ["web", "place", "ends"]) (sc := defScope s_want_at) (by decide +kernel)) (fun _ _ _ _ _ => (g_name 2 sc_want_at.nd)) (fun _ _ _ _ _ => ts_nil) (fun _ _ _ _ _ => (e_len T.z_len (a_cons (e_var 2) a_nil)))).e a_nil))))
theorem hasx_want_at (T : Tx K mg base) : HasZ P w K mg base "want_at" 5 ["web", "place"] (spZ K 2 m_want_at_X) := has_z T.d_want_at sc_want_at (by rfl) (by decide) fun f cdv A outer s H E hr tk =>
  (zs_one (z_ret (ez_callF (has_want_of T) (hr.mono (by decide)) (az_one (ez_lcX [("ends", 2)] sc_want_at.nd (ixx_any (ez_call (hasx_by_companies T) (hr.mono (by decide)) tk (a_cons (e_var 0) (a_cons (e_var 1) a_nil)))) (blkOk_by (N := ["web", "place", "ends"]) (sc := defScope s_want_at) (by decide +kernel)) (fun _ _ _ _ _ => (g_name 2 sc_want_at.nd)) (fun _ _ _ _ _ => ts_nil) (fun _ _ _ _ _ => (e_len T.z_len (a_cons (e_var 2) a_nil))))))))
theorem has_plan_at (T : Tx K mg base) : Has P w K mg base "plan_at" 5 ["web", "place"] (spN2 K 2 m_plan_at_N2) := has_new2 T.d_plan_at sc_plan_at (by rfl) (by decide) fun f cdv A outer s H E hr =>
  (ss_cons (s_set 2 sc_plan_at.nd (n_callH (has_by_companies T) (hr.mono (by decide)) (a_cons (e_var 0) (a_cons (e_var 1) a_nil))).e) (ss_cons (s_set 3 sc_plan_at.nd (e_callH (has_want_of T) (hr.mono (by decide)) (a_cons (n_lc [("ends", 8)] sc_plan_at.nd (i_any (e_var 2)) (blkOk_by (N := ["web", "place", "groups", "want", "row", "alone", "rest", "half", "ends", "end"]) (sc := defScope s_plan_at) (by decide +kernel)) (fun _ _ _ _ _ => (g_name 8 sc_plan_at.nd)) (fun _ _ _ _ _ => ts_nil) (fun _ _ _ _ _ => (e_len T.z_len (a_cons (e_var 8) a_nil)))).e a_nil))) (ss_cons (s_setLc (lc2 4 [("ends", 8), ("end", 9)] [9] sc_plan_at.nd (i_any (e_var 2)) (blkOk_by (N := ["web", "place", "groups", "want", "row", "alone", "rest", "half", "ends", "end"]) (sc := defScope s_plan_at) (by decide +kernel)) (fun _ _ _ _ _ => (g_name 8 sc_plan_at.nd)) (fun _ _ _ _ _ => ts_nil) (fun _ _ _ _ _ => (i_any (e_var 8))) (fun _ _ _ _ _ => (g_name 9 sc_plan_at.nd)) (fun _ _ _ _ _ => ts_nil) (fun _ _ _ _ _ => (e_var 9)))) (ss_cons (s_own 5 sc_plan_at.nd (n_sl (e_var 4) o_none (o_some (e_var 3)))) (ss_cons (s_set 6 sc_plan_at.nd (e_sl (e_var 4) (o_some (e_var 3)) o_none)) (ss_cons (s_set 7 sc_plan_at.nd (e_div (e_len T.z_len (a_cons (e_var 6) a_nil)) e_int)) (ss_one (s_retR (r_tup2 (r_new (n_listZip T.z_list T.z_zip (a_cons (e_sl (e_var 6) o_none (o_some (e_var 7))) (a_cons (e_sl (e_var 6) (o_some (e_var 7)) o_none) a_nil)))) (r_own 5))))))))))
theorem hasx_plan_at (T : Tx K mg base) : HasZ P w K mg base "plan_at" 5 ["web", "place"] (spZ K 2 m_plan_at_X) := has_z T.d_plan_at sc_plan_at (by rfl) (by decide) fun f cdv A outer s H E hr tk =>
  (zs_cons (z_set 2 sc_plan_at.nd (ez_call (hasx_by_companies T) (hr.mono (by decide)) tk (a_cons (e_var 0) (a_cons (e_var 1) a_nil)))) (zs_of (ss_cons s_never (ss_cons s_never (ss_cons s_never (ss_cons s_never (ss_cons s_never (ss_one s_never))))))))
theorem has_is_row (T : Tx K mg base) : Has P w K mg base "is_row" 1 ["thing", "size"] (spF K 2 m_is_row) := has_pure T.d_is_row sc_is_row (by rfl) (by decide) fun f cdv A outer s H E hr =>
  (ss_one (s_ret (e_and (e_isi2 T.z_isinstance T.z_list (by decide +kernel) kit_list T.z_tuple (by decide +kernel) kit_tuple (e_var 0)) (e_one (e_eq hr.units (e_len T.z_len (a_cons (e_var 0) a_nil)) (e_var 1))))))
theorem has_is_end (T : Tx K mg base) : Has P w K mg base "is_end" 2 ["web", "thing"] (spF K 2 m_is_end) := has_pure T.d_is_end sc_is_end (by rfl) (by decide) fun f cdv A outer s H E hr =>
  (ss_cons (s_if (t_w (w_or (t_not (t_val (e_callH (has_is_row T) (hr.mono (by decide)) (a_cons (e_var 1) (a_cons e_int a_nil))))) (w_or (t_not (t_val (e_callH (has_is_whole T) (hr.mono (by decide)) (a_cons (e_ix (e_var 1) e_int) a_nil)))) (w_or1 (t_not (t_val (e_callH (has_is_whole T) (hr.mono (by decide)) (a_cons (e_ix (e_var 1) e_int) a_nil)))))))) (ss_one (s_ret e_bl)) ss_nil) (ss_one (s_ret (e_and (e_lt (e_ix (e_var 1) e_int) (e_len T.z_len (a_cons (e_ix (e_var 0) e_int) a_nil))) (e_one (e_lt (e_ix (e_var 1) e_int) (e_gintE T.c_SIDES)))))))
theorem has_are_pairs (T : Tx K mg base) : Has P w K mg base "are_pairs" 3 ["web", "place", "pairs"] (spF K 3 m_are_pairs) := has_pure T.d_are_pairs sc_are_pairs (by rfl) (by decide) fun f cdv A outer s H E hr =>
  (ss_cons (s_if (t_not (t_val (e_isi2 T.z_isinstance T.z_list (by decide +kernel) kit_list T.z_tuple (by decide +kernel) kit_tuple (e_var 2)))) (ss_one (s_ret e_bl)) ss_nil) (ss_cons (s_for PassesOwn.never (i_any (e_var 2)) (g_name 3 sc_are_pairs.nd) (ss_cons (s_if (t_w (w_or (t_not (t_val (e_callH (has_is_row T) (hr.mono (by decide)) (a_cons (e_var 3) (a_cons e_int a_nil))))) (w_or (t_not (t_val (e_callH (has_is_end T) (hr.mono (by decide)) (a_cons (e_var 0) (a_cons (e_ix (e_var 3) e_int) a_nil))))) (w_or1 (t_not (t_val (e_callH (has_is_end T) (hr.mono (by decide)) (a_cons (e_var 0) (a_cons (e_ix (e_var 3) e_int) a_nil))))))))) (ss_one (s_ret e_bl)) ss_nil) (ss_one (s_if (t_eq hr.units (e_callH (has_company_of T) (hr.mono (by decide)) (a_cons (e_var 0) (a_cons (e_ix (e_var 3) e_int) a_nil))) (e_callH (has_company_of T) (hr.mono (by decide)) (a_cons (e_var 0) (a_cons (e_ix (e_var 3) e_int) a_nil)))) (ss_one (s_ret e_bl)) ss_nil))) (fun _ => trivial)) (ss_one (s_ret e_bl))))
theorem has_plan_shows (T : Tx K mg base) : Has P w K mg base "plan_shows" 4 ["web", "place", "plan"] (spF K 3 m_plan_shows) := has_pure T.d_plan_shows sc_plan_shows (by rfl) (by decide) fun f cdv A outer s H E hr =>
  (ss_cons (s_set 3 sc_plan_shows.nd (e_callH (has_ends_at T) (hr.mono (by decide)) (a_cons (e_var 0) (a_cons (e_var 1) a_nil)))) (ss_cons (s_if (t_w (w_or (t_not (t_val (e_callH (has_is_row T) (hr.mono (by decide)) (a_cons (e_var 2) (a_cons e_int a_nil))))) (w_or (t_not (t_val (e_callH (has_are_pairs T) (hr.mono (by decide)) (a_cons (e_var 0) (a_cons (e_var 1) (a_cons (e_ix (e_var 2) e_int) a_nil)))))) (w_or1 (t_not (t_val (e_isi2 T.z_isinstance T.z_list (by decide +kernel) kit_list T.z_tuple (by decide +kernel) kit_tuple (e_ix (e_var 2) e_int)))))))) (ss_one (s_ret e_bl)) ss_nil) (ss_cons (s_if (t_not (t_val (e_all T.z_all (a_cons (n_lc [("end", 5)] sc_plan_shows.nd (i_any (e_ix (e_var 2) e_int)) (blkOk_by (N := ["web", "place", "plan", "due", "told", "end", "pair"]) (sc := defScope s_plan_shows) (by decide +kernel)) (fun _ _ _ _ _ => (g_name 5 sc_plan_shows.nd)) (fun _ _ _ _ _ => ts_nil) (fun _ _ _ _ _ => (e_callH (has_is_end T) (hr.mono (by decide)) (a_cons (e_var 0) (a_cons (e_var 5) a_nil))))).e a_nil)))) (ss_one (s_ret e_bl)) ss_nil) (ss_cons (s_set 4 sc_plan_shows.nd (e_add (n_lc2 [("pair", 6), ("end", 5)] [5] sc_plan_shows.nd (i_any (e_ix (e_var 2) e_int)) (blkOk_by (N := ["web", "place", "plan", "due", "told", "end", "pair"]) (sc := defScope s_plan_shows) (by decide +kernel)) (fun _ _ _ _ _ => (g_name 6 sc_plan_shows.nd)) (fun _ _ _ _ _ => ts_nil) (fun _ _ _ _ _ => (i_any (e_var 6))) (fun _ _ _ _ _ => (g_name 5 sc_plan_shows.nd)) (fun _ _ _ _ _ => ts_nil) (fun _ _ _ _ _ => (e_tuple T.z_tuple (a_cons (e_var 5) a_nil)))).e (n_lc [("end", 5)] sc_plan_shows.nd (i_any (e_ix (e_var 2) e_int)) (blkOk_by (N := ["web", "place", "plan", "due", "told", "end", "pair"]) (sc := defScope s_plan_shows) (by decide +kernel)) (fun _ _ _ _ _ => (g_name 5 sc_plan_shows.nd)) (fun _ _ _ _ _ => ts_nil) (fun _ _ _ _ _ => (e_tuple T.z_tuple (a_cons (e_var 5) a_nil)))).e)) (ss_one (s_ret (e_eq hr.units (e_sorted hr T.z_sorted (a_cons (e_var 4) a_nil)) (e_var 3))))))))
theorem hasx_plan_shows (T : Tx K mg base) : HasZ P w K mg base "plan_shows" 4 ["web", "place", "plan"] (spZ K 3 m_plan_shows_X) := has_z T.d_plan_shows sc_plan_shows (by rfl) (by decide) fun f cdv A outer s H E hr tk =>
  (zs_cons (z_set 3 sc_plan_shows.nd (ez_call (hasz_ends_at T) (hr.mono (by decide)) tk (a_cons (e_var 0) (a_cons (e_var 1) a_nil)))) (zs_of (ss_cons s_never (ss_cons s_never (ss_cons s_never (ss_one s_never))))))
theorem has_multiplied (T : Tx K mg base) : Has P w K mg base "multiplied" 1 ["one", "other"] (spF K 2 m_multiplied) := has_pure T.d_multiplied sc_multiplied (by rfl) (by decide) fun f cdv A outer s H E hr =>
  (ss_cons (s_own 2 sc_multiplied.nd (n_rep (e_lst (a_cons e_int a_nil)) (e_sub (e_add (e_len T.z_len (a_cons (e_var 0) a_nil)) (e_len T.z_len (a_cons (e_var 1) a_nil))) e_int))) (ss_cons (s_for PassesOwn.never (i_enumA T.z_enumerate (a_cons (e_var 0) a_nil)) (g_tup (gs_cons (g_name 3 sc_multiplied.nd) (gs_cons (g_name 4 sc_multiplied.nd) gs_nil))) (ss_one (s_for PassesOwn.never (i_enumA T.z_enumerate (a_cons (e_var 1) a_nil)) (g_tup (gs_cons (g_name 5 sc_multiplied.nd) (gs_cons (g_name 6 sc_multiplied.nd) gs_nil))) (ss_one (s_augIx 2 (e_add (e_var 3) (e_var 5)) (e_mul (e_var 4) (e_var 6)))) (fun _ => trivial))) (fun _ => trivial)) (ss_one (s_ret (e_var 2)))))
theorem has_within_company (T : Tx K mg base) : Has P w K mg base "within_company" 1 ["size"] (spF K 1 m_within_company) := has_pure T.d_within_company sc_within_company (by rfl) (by decide) fun f cdv A outer s H E hr =>
  (ss_cons (s_own 1 sc_within_company.nd (n_lst (a_cons e_int a_nil))) (ss_cons (s_for0 PassesOwn.never (i0_range2 T.z_range (a_cons e_int (a_cons (e_add (e_div (e_var 0) e_int) e_int) a_nil))) (g_name 2 sc_within_company.nd) (ss_cons (s_set 3 sc_within_company.nd (e_add (e_sub (e_var 0) (e_mul e_int (e_var 2))) e_int)) (ss_one (s_expr (e_append 1 (e_div (e_div (e_mul (e_mul (e_neg (e_ixO 1 (e_neg e_int))) (e_var 3)) (e_sub (e_var 3) e_int)) e_int) (e_var 2))))))) (ss_one (s_ret (e_var 1)))))
theorem has_all_paired (T : Tx K mg base) : Has P w K mg base "all_paired" 1 ["many"] (spF K 1 m_all_paired) := has_pure T.d_all_paired sc_all_paired (by rfl) (by decide) fun f cdv A outer s H E hr =>
  (ss_cons (s_set 1 sc_all_paired.nd e_int) (ss_cons (s_for PassesOwn.never (i_range3 T.z_range (a_cons e_int (a_cons (e_var 0) (a_cons e_int a_nil)))) (g_name 2 sc_all_paired.nd) (ss_one (s_augM 1 sc_all_paired.nd (e_var 2))) (fun _ => trivial)) (ss_one (s_ret (e_var 1)))))
theorem has_plans_counted (T : Tx K mg base) : Has P w K mg base "plans_counted" 5 ["web", "place"] (spF K 2 m_plans_counted) := has_pure T.d_plans_counted sc_plans_counted (by rfl) (by decide) fun f cdv A outer s H E hr =>
  (ss_cons (s_setLc (lc1 2 [("ends", 6)] sc_plans_counted.nd (i_any (n_callH (has_by_companies T) (hr.mono (by decide)) (a_cons (e_var 0) (a_cons (e_var 1) a_nil))).e) (blkOk_by (N := ["web", "place", "sizes", "many", "signed", "size", "ends", "pairs", "number"]) (sc := defScope s_plans_counted) (by decide +kernel)) (fun _ _ _ _ _ => (g_name 6 sc_plans_counted.nd)) (fun _ _ _ _ _ => ts_nil) (fun _ _ _ _ _ => (e_len T.z_len (a_cons (e_var 6) a_nil))))) (ss_cons (s_set 3 sc_plans_counted.nd (e_sum T.z_sum (a_cons (e_var 2) a_nil))) (ss_cons (s_if (t_eq hr.units (e_mod (e_var 3) e_int) e_int) (ss_one (s_ret e_int)) ss_nil) (ss_cons (s_set 4 sc_plans_counted.nd (e_lst (a_cons e_int a_nil))) (ss_cons (s_for PassesOwn.never (i_any (e_var 2)) (g_name 5 sc_plans_counted.nd) (ss_one (s_set 4 sc_plans_counted.nd (e_callH (has_multiplied T) (hr.mono (by decide)) (a_cons (e_var 4) (a_cons (e_callH (has_within_company T) (hr.mono (by decide)) (a_cons (e_var 5) a_nil)) a_nil))))) (fun _ => trivial)) (ss_one (s_ret (e_sum T.z_sum (a_cons (n_lc [("pairs", 7), ("number", 8)] sc_plans_counted.nd (i_enumA T.z_enumerate (a_cons (e_var 4) a_nil)) (blkOk_by (N := ["web", "place", "sizes", "many", "signed", "size", "ends", "pairs", "number"]) (sc := defScope s_plans_counted) (by decide +kernel)) (fun _ _ _ _ _ => (g_tup (gs_cons (g_name 7 sc_plans_counted.nd) (gs_cons (g_name 8 sc_plans_counted.nd) gs_nil)))) (fun _ _ _ _ _ => ts_nil) (fun _ _ _ _ _ => (e_mul (e_var 8) (e_callH (has_all_paired T) (hr.mono (by decide)) (a_cons (e_sub (e_var 3) (e_mul e_int (e_var 7))) a_nil))))).e a_nil)))))))))
theorem hasx_plans_counted (T : Tx K mg base) : HasZ P w K mg base "plans_counted" 5 ["web", "place"] (spZ K 2 m_plans_counted_X) := has_z T.d_plans_counted sc_plans_counted (by rfl) (by decide) fun f cdv A outer s H E hr tk =>
  (zs_cons (z_setLcX 2 [("ends", 6)] sc_plans_counted.nd (ixx_any (ez_call (hasx_by_companies T) (hr.mono (by decide)) tk (a_cons (e_var 0) (a_cons (e_var 1) a_nil)))) (blkOk_by (N := ["web", "place", "sizes", "many", "signed", "size", "ends", "pairs", "number"]) (sc := defScope s_plans_counted) (by decide +kernel)) (fun _ _ _ _ _ => (g_name 6 sc_plans_counted.nd)) (fun _ _ _ _ _ => ts_nil) (fun _ _ _ _ _ => (e_len T.z_len (a_cons (e_var 6) a_nil)))) (zs_of (ss_cons s_never (ss_cons s_never (ss_cons s_never (ss_cons s_never (ss_one s_never)))))))
theorem has__law_asked (T : Tx K mg base) : Has P w K mg base "_law_asked" 6 ["door", "net", "place"] (spF K 3 m__law_asked_k12) := has_pure T.d__law_asked sc__law_asked (by rfl) (by decide) fun f cdv A outer s H E hr =>
  (ss_cons (s_set 3 sc__law_asked.nd e_non) (ss_cons (s_tryT 4 3 sc__law_asked.nd T.t_RideError fun W pn xe tk => (zs_one (z_if (t_eq hr.units (e_var 0) e_int) (zs_one (z_expr (ez_callOr (hasx_want_at T) (has_want_at T) (hr.mono (by decide)) (hr.mono (by decide)) tk (a_cons (e_var 1) (a_cons (e_var 2) a_nil))))) (zs_one (z_if (t_eq hr.units (e_var 0) e_int) (zs_one (z_expr (ez_callOr (hasx_plan_at T) (Has.ofN2 (has_plan_at T)) (hr.mono (by decide)) (hr.mono (by decide)) tk (a_cons (e_var 1) (a_cons (e_var 2) a_nil))))) (zs_one (z_if (t_eq hr.units (e_var 0) e_int) (zs_one (z_expr (ez_callOr (hasx_plan_shows T) (has_plan_shows T) (hr.mono (by decide)) (hr.mono (by decide)) tk (a_cons (e_var 1) (a_cons (e_var 2) (a_cons (e_ix (e_lst (a_cons e_non (a_cons (e_tup (a_cons (e_lst a_nil) (a_cons (e_lst a_nil) a_nil))) (a_cons e_int a_nil)))) (e_mod (e_len T.z_len (a_cons (e_ix (e_var 1) e_int) a_nil)) e_int)) a_nil)))))) (zs_one (z_expr (ez_callOr (hasx_plans_counted T) (has_plans_counted T) (hr.mono (by decide)) (hr.mono (by decide)) tk (a_cons (e_var 1) (a_cons (e_var 2) a_nil)))))))))))) (ss_one (s_ret (e_if (t_isN 3) e_str (e_callX 3 (has__law_kind_of T) (hr.mono (by decide))))))))
theorem law_body (T : Tx K mg base) : Body P w K mg base ["script", "reel", "k", "net", "some", "rows", "place", "due", "door"] "law" s_law 10 AnyB g_law := fun f cdv A outer s H E hr =>
  (ss_cons (s_own 1 sc_law.nd (n_callScr 0 (has__law_reel T) (hr.mono (by decide)))) (ss_cons (s_for0 PassesOwn.never (i0_range1 T.z_range (a_cons (e_add e_int (e_min2 T.z_min (a_cons (e_scrLen 0 T.z_len) (a_cons e_int a_nil)))) a_nil)) (g_name 2 sc_law.nd) (ss_cons (s_set 3 sc_law.nd (e_callHIO 1 (has__law_dressed T 8) (hr.mono (by decide)) (a_cons (e_callHIO 1 (has__law_net T) (hr.mono (by decide)) (a_cons e_int a_nil)) a_nil))) (ss_cons (s_set 4 sc_law.nd (e_lst (a_cons (e_neg e_int) (a_cons (e_ix (e_var 3) e_int) (a_cons (e_add (e_ix (e_var 3) e_int) (e_pow e_int e_int)) (a_cons e_bl (a_cons e_bl (a_cons e_non (a_cons e_str (a_cons (e_tup (a_cons e_int a_nil)) (a_cons (e_lst (a_cons e_int a_nil)) (a_cons e_str a_nil)))))))))))) (ss_cons (s_set 5 sc_law.nd (e_add (n_lc [("place", 6)] sc_law.nd (i_any (e_var 4)) (blkOk_by (N := ["script", "reel", "k", "net", "some", "rows", "place", "due", "door"]) (sc := defScope s_law) (by decide +kernel)) (fun _ _ _ _ _ => (g_name 6 sc_law.nd)) (fun _ _ _ _ _ => ts_nil) (fun _ _ _ _ _ => (e_tup (a_cons (e_var 6) (a_cons e_str a_nil))))).e (n_lc [("place", 6)] sc_law.nd (i_range1 T.z_range (a_cons (e_ix (e_var 3) e_int) a_nil)) (blkOk_by (N := ["script", "reel", "k", "net", "some", "rows", "place", "due", "door"]) (sc := defScope s_law) (by decide +kernel)) (fun _ _ _ _ _ => (g_name 6 sc_law.nd)) (fun _ _ _ _ _ => ts_nil) (fun _ _ _ _ _ => (e_tup (a_cons (e_var 6) (a_cons e_str a_nil))))).e)) (ss_one (s_for PassesOwn.never (i_any (e_var 5)) (g_tup (gs_cons (g_name 6 sc_law.nd) (gs_cons (g_name 7 sc_law.nd) gs_nil))) (ss_one (s_if (t_ne hr.units (n_lc [("door", 8)] sc_law.nd (i_range1 T.z_range (a_cons e_int a_nil)) (blkOk_by (N := ["script", "reel", "k", "net", "some", "rows", "place", "due", "door"]) (sc := defScope s_law) (by decide +kernel)) (fun _ _ _ _ _ => (g_name 8 sc_law.nd)) (fun _ _ _ _ _ => (ts_one (t_ne hr.units (e_callH (has__law_asked T) (hr.mono (by decide)) (a_cons (e_var 8) (a_cons (e_var 3) (a_cons (e_var 6) a_nil)))) (e_var 7)))) (fun _ _ _ _ _ => (e_var 8))).e (e_lst a_nil)) (ss_one (s_ret e_bl)) ss_nil)) (fun _ => trivial))))))) (ss_one (s_ret e_bl))))
end
end Lw.k12

set_option maxHeartbeats 4000000
namespace Lw.k12
open PySem Fu Lw
local macro_rules | `(tactic| walk_at "e1") => `(tactic| first
  | with_reducible refine eo_seq ?_ | (with_reducible refine then_nx' ?_; refine ⟨?_, ?_, ?_⟩; rotate_left; · (try dsimp only [List.set, List.length_cons, List.length_nil, List.cons_append, List.nil_append, Nat.zero_add, Nat.reduceAdd]); exact rfl) | with_reducible refine then_rt ?_ | with_reducible refine eo_if ?_ | with_reducible refine eo_ret ?_ | with_reducible refine eo_set ?_ | with_reducible refine eo_asg ?_ | with_reducible refine eo_drop ?_ | with_reducible refine eo_nx ?_ | with_reducible refine eo_par ?_ | with_reducible refine eo_own ?_ | with_reducible refine eo_retN ?_ | with_reducible refine eo_for ?_ | with_reducible refine eo_retO ?_
  | with_reducible refine ev_c ?_ | (with_reducible refine ev_var ?_; refine ⟨_, rfl, ?_⟩) | with_reducible refine ev_bin ?_ | with_reducible refine ev_un ?_ | with_reducible refine ev_nil ?_ | with_reducible refine ev_cons ?_
  | with_reducible refine ev_tup ?_ | with_reducible refine ev_lst ?_ | with_reducible refine ev_call ?_ | with_reducible refine ev_callF ?_ | with_reducible refine ev_isi ?_ | with_reducible refine ev_isi2 ?_ | with_reducible refine ev_andV ?_ | with_reducible refine ev_orV ?_ | with_reducible refine ev_notV ?_
  | with_reducible refine ev_B ?_ | with_reducible refine ev_and ?_ | with_reducible refine ev_or ?_ | with_reducible refine ev_not ?_ | with_reducible refine ev_yes ?_ | with_reducible refine ev_if ?_ | with_reducible refine ev_no ?_ | with_reducible refine ev_so ?_ | with_reducible refine ev_sl ?_ | with_reducible refine ev_items ?_
  | (with_reducible refine ev_ixO ?_; refine ⟨_, _, rfl, rfl, ?_⟩) | (with_reducible refine ev_varO ?_; refine ⟨_, _, rfl, rfl, ?_⟩) | (with_reducible refine ev_lenO ?_; refine ⟨_, _, rfl, rfl, ?_⟩) | (with_reducible refine ev_scrSl ?_; refine ⟨_, rfl, ?_⟩) | (with_reducible refine ev_scrLen ?_; refine ⟨_, rfl, ?_⟩) | (with_reducible refine ev_callScr ?_; refine ⟨_, rfl, ?_⟩) | (with_reducible refine ev_OL ?_; refine ⟨_, _, rfl, rfl, ?_⟩) | with_reducible refine ev_OR ?_ | with_reducible refine ev_rep ?_ | with_reducible refine ev_listRng1 ?_ | with_reducible refine eo_setO ?_
  | with_reducible refine es_name ?_ | with_reducible refine es_tup2 ?_ | with_reducible refine es_tup3 ?_
  | with_reducible refine ed_addI ?_ | with_reducible refine ed_subI ?_ | with_reducible refine ed_cmp ?_ | with_reducible refine ed_eqI ?_ | with_reducible refine ed_neI ?_ | with_reducible refine ed_slT ?_ | with_reducible refine ed_slL ?_ | with_reducible refine ed_lenT ?_ | with_reducible refine ed_lenL ?_ | with_reducible refine ed_lenS ?_ | with_reducible refine ed_inS ?_ | with_reducible refine ed_itT ?_ | with_reducible refine ed_itL ?_ | with_reducible refine ed_tupL ?_ | with_reducible refine ed_tupT ?_ | with_reducible refine ed_listL ?_ | with_reducible refine ed_listT ?_ | with_reducible refine ed_neg ?_ | with_reducible refine ed_max ?_ | with_reducible refine ed_min ?_ | with_reducible refine ed_intB ?_
  | with_reducible refine ev_rng1 ?_ | with_reducible refine ev_rng2 ?_)
local macro_rules | `(tactic| walk_at "sd") => `(tactic| first | rfl | assumption | (simp only [decide_eq_true_eq, decide_eq_false_iff_not, Bool.not_eq_true', Bool.not_eq_false', Bool.and_eq_true, Bool.or_eq_true, List.length_map, List.length_cons, List.length_nil, List.length_append, List.length_range] at *; omega))
local macro_rules | `(tactic| walk_at "e2") => `(tactic| first
  | walk_at "e1" | with_reducible refine ⟨_, rfl, ?_⟩ | with_reducible refine ⟨_, _, rfl, ?_⟩
  | with_reducible refine And.intro (Eq.refl (List.length _)) ?_ | with_reducible refine And.intro (Nat.le_of_ble_eq_true (n := List.length _) rfl) ?_
  | with_reducible refine And.intro (Eq.refl (_ : Sx)) (?_ : Ed _ _)
  | ((with_reducible refine And.intro ?_ (And.intro ?_ (?_ : Ev _ _))); (· rfl); (· rfl))
  | ((with_reducible refine ed_ixTx ?_); refine ⟨_, by decide, rfl, ?_⟩) | ((with_reducible refine ed_ixLx ?_); refine ⟨_, by decide, rfl, ?_⟩) | ((with_reducible refine es_star ?_))
  | with_reducible refine an_tt ?_ | with_reducible refine an_ft ?_ | with_reducible refine an_tf ?_ | with_reducible refine an_ff ?_ | with_reducible refine an_ntt ?_ | with_reducible refine an_nft ?_ | with_reducible refine an_ntf ?_ | with_reducible refine an_nff ?_
  | ((with_reducible refine ed_dneSelf ?_)) | ((with_reducible refine ed_deqSelf ?_))
  | ((with_reducible refine ed_ixT ?_ ?_ ?_); (· decide); (· rfl)) | ((with_reducible refine ed_ixL ?_ ?_ ?_); (· decide); (· rfl)) | ((with_reducible refine ed_at ?_ ?_ ?_); (· decide); (· rfl))
  | ((with_reducible refine ed_modI ?_ ?_); (· first | decide | omega))
  | with_reducible exact gives_nx | ((with_reducible refine gives_rt ?_); (· rfl)) | ((with_reducible refine And.intro ?_ ?_); (· exact rfl); (· with_reducible exact Eq.refl (_ : Sx))))
local macro_rules | `(tactic| walk_at "e") => `(tactic| repeat walk_at "e2")
/-- begin a def's spec -/
local macro_rules | `(tactic| walk_at "i") => `(tactic| simp only [initS, List.map_cons, List.map_nil, List.length_cons, List.length_nil, Nat.reduceAdd, Nat.reduceSub, List.replicate, List.cons_append, List.nil_append])
/-- a known truth decides -/
local macro_rules | `(tactic| walk_at "t") => `(tactic| first | ((with_reducible refine split_t ?_ ?_); (· walk_at "sd")) | ((with_reducible refine split_t' ?_ ?_); (· walk_at "sd")))
local macro_rules | `(tactic| walk_at "f") => `(tactic| first | ((with_reducible refine split_f ?_ ?_); (· walk_at "sd")) | ((with_reducible refine split_f' ?_ ?_); (· walk_at "sd")))
/-- all that is seen in a look -/
local macro_rules | `(tactic| walk_at "v") => `(tactic| (rw [sealAll_mk (by (simp only [List.set_cons_zero, List.set_cons_succ, List.map_cons, List.map_nil, sealS_none, sealS_dat, sealS_scr, sealS_own, List.getElem?_cons_zero, List.getElem?_cons_succ, sealC_lst]; rfl)) (by (simp only [List.set_cons_zero, List.set_cons_succ, List.map_cons, List.map_nil]; rfl))]))
open Rl Gr
def badsOf (p : Int) : List D := [.int (-1), .int p, .int (p + 10 ^ 20), .bool true, .bool false, .none, .str "0", .tuple [.int 0], .list [.int 0], .str ""]
theorem bads_bad {p : Int} (p0 : 0 ≤ p) : ∀ b ∈ badsOf p, placeD p b = false := by
  intro b hb
  unfold badsOf at hb
  simp only [List.mem_cons, List.not_mem_nil, or_false] at hb
  rcases hb with rfl | rfl | rfl | rfl | rfl | rfl | rfl | rfl | rfl | rfl <;> simp [placeD]
  omega
theorem row12 {w a : D} {p : Int} {ls : List Ln} {k : Str} (hw : Web w p ls) (h : WbOk p ls) (hl : ls.length ≤ 20) (hr : (placeD p a = false ∧ k = "NoPlace") ∨ ∃ q : Int, a = .int q ∧ 0 ≤ q ∧ q < p ∧ k = "none") (d : Nat) (hd : d < 4) : m__law_asked_k12 [.int (d : Int), w, a] = some (.str k) := by
  rcases hr with ⟨hb, rfl⟩ | ⟨q, rfl, q0, q1, rfl⟩
  · exact Cn.x_asked12 hw (by omega) d hd fun pl _ => ⟨_, Cn.door_no (z_ends_at1 hw hb) d, fun c e => by cases e; rfl, rfl⟩
  · refine Cn.x_asked12 hw (by omega) d hd fun pl hp => ?_
    obtain ⟨z, e⟩ := Cn.door_ok hw h hl q0 q1 hp d
    exact ⟨_, e, (fun c e => nomatch e), rfl⟩
theorem law_true : ∀ ns : List Int, ns.length ≤ 63 → mScr 9 g_law ns = some (.bool true) := by
  intro ns hns
  refine mScr_of ?_; walk_at "i"; unfold g_law
  walk_at "e"
  obtain ⟨cs, e, hR⟩ := x_reel hns
  refine Ed.of e ?_
  walk_at "e"
  refine ⟨by omega, by omega, ?_⟩
  refine eo_loop (fun i S => ∃ x2 x3 x4 x5 x6 x7 x8 cs, S = ⟨[some (.scr ns), some (.own 0), x2, x3, x4, x5, x6, x7, x8], [some (.lst cs)]⟩ ∧ Reel (4294967296 - 1000 * i) cs) ⟨_, _, _, _, _, _, _, _, rfl, hR⟩ ?_ ?_
  · rintro i z S hz ⟨x2, x3, x4, x5, x6, x7, x8, cs, rfl, hR⟩
    obtain ⟨hi, rfl⟩ := rng_at hz
    walk_at "e"
    refine ev_IO ⟨_, rfl, ?_⟩
    walk_at "e"
    refine ev_IO ⟨_, rfl, ?_⟩
    walk_at "e"
    obtain ⟨d, cs', e, p, ls, rfl, hb, hp, hl, hR⟩ := x__law_net_k05 (most := 20) (by decide) (by decide) hR (by omega)
    refine ⟨_, _, e, ?_⟩
    walk_at "e"
    obtain ⟨w, cs', e, hw, hR⟩ := x_dr8k (p := p) (ls := ls) hR (by omega)
    refine ⟨_, _, e, ?_⟩
    obtain ⟨L, s, hL⟩ := id hw
    walk_at "e"
    refine ed_ixQ s (by decide) rfl ?_
    walk_at "e"
    refine ed_ixQ s (by decide) rfl ?_
    walk_at "e"
    refine ed_powI (by decide) ?_
    walk_at "e"
    refine ev_lcX (xs := badsOf p) (enc := id) (b := fun _ => true) (g := fun b => .tuple [b, .str "NoPlace"]) ?_
    walk_at "e"
    refine ⟨rfl, fun b hb => ?_, ?_⟩
    · walk_at "e"
      refine ⟨rfl, rfl, fun _ => ?_⟩
      walk_at "e"
    rw [filter_tt]
    refine ev_lcX (xs := List.range p.toNat) (enc := fun i : Nat => .int (i : Int)) (b := fun _ => true) (g := fun i : Nat => .tuple [.int (i : Int), .str "none"]) ?_
    walk_at "e"
    refine ed_ixQ s (by decide) rfl ?_
    walk_at "e"
    have p0 := hb.p0
    refine ⟨by omega, by omega, rng0 _, fun b hb => ?_, ?_⟩
    · walk_at "e"
      refine ⟨rfl, rfl, fun _ => ?_⟩
      walk_at "e"
    rw [filter_tt]
    walk_at "e"
    refine ed_addL (by simp only [List.length_map, List.length_range, badsOf, List.length_cons, List.length_nil]; omega) ?_
    walk_at "e"
    have rows : ∀ r ∈ ((badsOf p).map fun b => PyData.tuple [b, .str "NoPlace"]) ++ (List.range p.toNat).map fun i : Nat => PyData.tuple [.int (i : Int), .str "none"], ∃ a k, r = .tuple [a, .str k] ∧ ((placeD p a = false ∧ k = "NoPlace") ∨ ∃ q : Int, a = .int q ∧ 0 ≤ q ∧ q < p ∧ k = "none") := by
      intro r hr
      rcases List.mem_append.mp hr with hr | hr
      · obtain ⟨b, hb, rfl⟩ := List.mem_map.mp hr
        exact ⟨_, _, rfl, .inl ⟨bads_bad p0 b hb, rfl⟩⟩
      · obtain ⟨j, hj, rfl⟩ := List.mem_map.mp hr
        rw [List.mem_range] at hj
        exact ⟨_, _, rfl, .inr ⟨_, rfl, by omega, by omega, rfl⟩⟩
    generalize ((badsOf p).map fun b => PyData.tuple [b, .str "NoPlace"]) ++ (List.range p.toNat).map (fun i : Nat => PyData.tuple [.int (i : Int), .str "none"]) = rs at rows
    refine eo_loop (fun j S => ∃ x6 x7 x8, S = ⟨[some (.scr ns), some (.own 0), some (.dat (.int (0 + (i : Int)))), some (.dat w), some (.dat (.list (badsOf p))), some (.dat (.list rs)), x6, x7, x8], [some (.lst cs')]⟩) ⟨_, _, _, rfl⟩ ?_ ?_
    · rintro j r S hr ⟨x6, x7, x8, rfl⟩
      obtain ⟨a, k, rfl, hk⟩ := rows r (List.mem_of_getElem? hr)
      walk_at "e"
      refine ev_lcX (xs := List.range 4) (enc := fun i : Nat => .int (i : Int)) (b := fun _ => false) (g := fun _ => .none) ?_
      walk_at "e"
      refine ⟨by decide, by decide, rng0 _, fun d hd => ?_, ?_⟩
      · rw [List.mem_range] at hd
        walk_at "e"
        refine Ed.of (row12 hw hb (by omega) hk d hd) ?_
        walk_at "e"
        exact ⟨rfl, rfl, (fun h => nomatch h)⟩
      · walk_at "e"
        rw [show (List.range 4).filter (fun _ => false) = [] from rfl, List.map_nil]
        refine ed_ne_good (good_list_le (n := 1) (m := 0) (ds := []) (fun _ h => nomatch h) (by decide)) (good_list_le (n := 1) (m := 0) (ds := []) (fun _ h => nomatch h) (by decide)) (fun _ => ?_) (fun z => absurd rfl z)
        walk_at "e"
        exact ⟨_, _, _, rfl⟩
    · rintro S ⟨x6, x7, x8, rfl⟩
      walk_at "e"
      exact ⟨_, _, _, _, _, _, _, _, rfl, hR.mono (by omega)⟩
  · rintro S ⟨x2, x3, x4, x5, x6, x7, x8, cs, rfl, hR⟩
    walk_at "e"
    exact ⟨_, rfl⟩
end Lw.k12

set_option maxHeartbeats 16000000
namespace Lw.k12
open PySem PySem.Spec PyProof.Rows L2 RZ Fu Lw
theorem all_mk {l : PySem.W.OpenLaw} {w : World} {K : PySem.W.Frag} {h : Heap} {mg : Str → Option Value} {fa : Addr} (X : K.In h) (G : h.Ns mainGlobals mg) (hfa : mg "law" = some (.ref fa))
    {f__law_reel : Addr} {od__law_reel an__law_reel : Option Addr} {sl__law_reel : Array (Option Value)} {oc__law_reel kV__law_reel dc__law_reel pm__law_reel cd__law_reel ct__law_reel : Value}
    (a__law_reel : PySem.W.nsIn K mainGlobals "_law_reel" = some (some (.ref f__law_reel)))
    (l__law_reel : K.lookup f__law_reel = some ⟨oc__law_reel, od__law_reel, .func (PySem.W.fnOf "_law_reel" "_law_reel" (defArgs s__law_reel) (defBody s__law_reel) (defScope s__law_reel) .none kV__law_reel dc__law_reel pm__law_reel an__law_reel cd__law_reel ct__law_reel), sl__law_reel⟩)
    (c__law_reel : PySem.W.codeIn K cd__law_reel "_law_reel" = true)
    (k__law_reel : PySem.W.keepIn K (.ref f__law_reel) = true)
    {f__law_draw : Addr} {od__law_draw an__law_draw : Option Addr} {sl__law_draw : Array (Option Value)} {oc__law_draw kV__law_draw dc__law_draw pm__law_draw cd__law_draw ct__law_draw : Value}
    (a__law_draw : PySem.W.nsIn K mainGlobals "_law_draw" = some (some (.ref f__law_draw)))
    (l__law_draw : K.lookup f__law_draw = some ⟨oc__law_draw, od__law_draw, .func (PySem.W.fnOf "_law_draw" "_law_draw" (defArgs s__law_draw) (defBody s__law_draw) (defScope s__law_draw) .none kV__law_draw dc__law_draw pm__law_draw an__law_draw cd__law_draw ct__law_draw), sl__law_draw⟩)
    (c__law_draw : PySem.W.codeIn K cd__law_draw "_law_draw" = true)
    (k__law_draw : PySem.W.keepIn K (.ref f__law_draw) = true)
    {f__law_dressed : Addr} {od__law_dressed an__law_dressed : Option Addr} {sl__law_dressed : Array (Option Value)} {oc__law_dressed kV__law_dressed dc__law_dressed pm__law_dressed cd__law_dressed ct__law_dressed : Value}
    (a__law_dressed : PySem.W.nsIn K mainGlobals "_law_dressed" = some (some (.ref f__law_dressed)))
    (l__law_dressed : K.lookup f__law_dressed = some ⟨oc__law_dressed, od__law_dressed, .func (PySem.W.fnOf "_law_dressed" "_law_dressed" (defArgs s__law_dressed) (defBody s__law_dressed) (defScope s__law_dressed) .none kV__law_dressed dc__law_dressed pm__law_dressed an__law_dressed cd__law_dressed ct__law_dressed), sl__law_dressed⟩)
    (c__law_dressed : PySem.W.codeIn K cd__law_dressed "_law_dressed" = true)
    (k__law_dressed : PySem.W.keepIn K (.ref f__law_dressed) = true)
    {f__law_net : Addr} {od__law_net an__law_net : Option Addr} {sl__law_net : Array (Option Value)} {oc__law_net kV__law_net dc__law_net pm__law_net cd__law_net ct__law_net : Value}
    (a__law_net : PySem.W.nsIn K mainGlobals "_law_net" = some (some (.ref f__law_net)))
    (l__law_net : K.lookup f__law_net = some ⟨oc__law_net, od__law_net, .func (PySem.W.fnOf "_law_net" "_law_net" (defArgs s__law_net) (defBody s__law_net) (defScope s__law_net) .none kV__law_net dc__law_net pm__law_net an__law_net cd__law_net ct__law_net), sl__law_net⟩)
    (c__law_net : PySem.W.codeIn K cd__law_net "_law_net" = true)
    (k__law_net : PySem.W.keepIn K (.ref f__law_net) = true)
    {f__law_kind_of : Addr} {od__law_kind_of an__law_kind_of : Option Addr} {sl__law_kind_of : Array (Option Value)} {oc__law_kind_of kV__law_kind_of dc__law_kind_of pm__law_kind_of cd__law_kind_of ct__law_kind_of : Value}
    (a__law_kind_of : PySem.W.nsIn K mainGlobals "_law_kind_of" = some (some (.ref f__law_kind_of)))
    (l__law_kind_of : K.lookup f__law_kind_of = some ⟨oc__law_kind_of, od__law_kind_of, .func (PySem.W.fnOf "_law_kind_of" "_law_kind_of" (defArgs s__law_kind_of) (defBody s__law_kind_of) (defScope s__law_kind_of) .none kV__law_kind_of dc__law_kind_of pm__law_kind_of an__law_kind_of cd__law_kind_of ct__law_kind_of), sl__law_kind_of⟩)
    (c__law_kind_of : PySem.W.codeIn K cd__law_kind_of "_law_kind_of" = true)
    (k__law_kind_of : PySem.W.keepIn K (.ref f__law_kind_of) = true)
    {f_want_of : Addr} {od_want_of an_want_of : Option Addr} {sl_want_of : Array (Option Value)} {oc_want_of kV_want_of dc_want_of pm_want_of cd_want_of ct_want_of : Value}
    (a_want_of : PySem.W.nsIn K mainGlobals "want_of" = some (some (.ref f_want_of)))
    (l_want_of : K.lookup f_want_of = some ⟨oc_want_of, od_want_of, .func (PySem.W.fnOf "want_of" "want_of" (defArgs s_want_of) (defBody s_want_of) (defScope s_want_of) .none kV_want_of dc_want_of pm_want_of an_want_of cd_want_of ct_want_of), sl_want_of⟩)
    (c_want_of : PySem.W.codeIn K cd_want_of "want_of" = true)
    (k_want_of : PySem.W.keepIn K (.ref f_want_of) = true)
    {f_is_whole : Addr} {od_is_whole an_is_whole : Option Addr} {sl_is_whole : Array (Option Value)} {oc_is_whole kV_is_whole dc_is_whole pm_is_whole cd_is_whole ct_is_whole : Value}
    (a_is_whole : PySem.W.nsIn K mainGlobals "is_whole" = some (some (.ref f_is_whole)))
    (l_is_whole : K.lookup f_is_whole = some ⟨oc_is_whole, od_is_whole, .func (PySem.W.fnOf "is_whole" "is_whole" (defArgs s_is_whole) (defBody s_is_whole) (defScope s_is_whole) .none kV_is_whole dc_is_whole pm_is_whole an_is_whole cd_is_whole ct_is_whole), sl_is_whole⟩)
    (c_is_whole : PySem.W.codeIn K cd_is_whole "is_whole" = true)
    (k_is_whole : PySem.W.keepIn K (.ref f_is_whole) = true)
    {f_need_place : Addr} {od_need_place an_need_place : Option Addr} {sl_need_place : Array (Option Value)} {oc_need_place kV_need_place dc_need_place pm_need_place cd_need_place ct_need_place : Value}
    (a_need_place : PySem.W.nsIn K mainGlobals "need_place" = some (some (.ref f_need_place)))
    (l_need_place : K.lookup f_need_place = some ⟨oc_need_place, od_need_place, .func (PySem.W.fnOf "need_place" "need_place" (defArgs s_need_place) (defBody s_need_place) (defScope s_need_place) .none kV_need_place dc_need_place pm_need_place an_need_place cd_need_place ct_need_place), sl_need_place⟩)
    (c_need_place : PySem.W.codeIn K cd_need_place "need_place" = true)
    (k_need_place : PySem.W.keepIn K (.ref f_need_place) = true)
    {f_all_ends : Addr} {od_all_ends an_all_ends : Option Addr} {sl_all_ends : Array (Option Value)} {oc_all_ends kV_all_ends dc_all_ends pm_all_ends cd_all_ends ct_all_ends : Value}
    (a_all_ends : PySem.W.nsIn K mainGlobals "all_ends" = some (some (.ref f_all_ends)))
    (l_all_ends : K.lookup f_all_ends = some ⟨oc_all_ends, od_all_ends, .func (PySem.W.fnOf "all_ends" "all_ends" (defArgs s_all_ends) (defBody s_all_ends) (defScope s_all_ends) .none kV_all_ends dc_all_ends pm_all_ends an_all_ends cd_all_ends ct_all_ends), sl_all_ends⟩)
    (c_all_ends : PySem.W.codeIn K cd_all_ends "all_ends" = true)
    (k_all_ends : PySem.W.keepIn K (.ref f_all_ends) = true)
    {f_place_of : Addr} {od_place_of an_place_of : Option Addr} {sl_place_of : Array (Option Value)} {oc_place_of kV_place_of dc_place_of pm_place_of cd_place_of ct_place_of : Value}
    (a_place_of : PySem.W.nsIn K mainGlobals "place_of" = some (some (.ref f_place_of)))
    (l_place_of : K.lookup f_place_of = some ⟨oc_place_of, od_place_of, .func (PySem.W.fnOf "place_of" "place_of" (defArgs s_place_of) (defBody s_place_of) (defScope s_place_of) .none kV_place_of dc_place_of pm_place_of an_place_of cd_place_of ct_place_of), sl_place_of⟩)
    (c_place_of : PySem.W.codeIn K cd_place_of "place_of" = true)
    (k_place_of : PySem.W.keepIn K (.ref f_place_of) = true)
    {f_ends_at : Addr} {od_ends_at an_ends_at : Option Addr} {sl_ends_at : Array (Option Value)} {oc_ends_at kV_ends_at dc_ends_at pm_ends_at cd_ends_at ct_ends_at : Value}
    (a_ends_at : PySem.W.nsIn K mainGlobals "ends_at" = some (some (.ref f_ends_at)))
    (l_ends_at : K.lookup f_ends_at = some ⟨oc_ends_at, od_ends_at, .func (PySem.W.fnOf "ends_at" "ends_at" (defArgs s_ends_at) (defBody s_ends_at) (defScope s_ends_at) .none kV_ends_at dc_ends_at pm_ends_at an_ends_at cd_ends_at ct_ends_at), sl_ends_at⟩)
    (c_ends_at : PySem.W.codeIn K cd_ends_at "ends_at" = true)
    (k_ends_at : PySem.W.keepIn K (.ref f_ends_at) = true)
    {f_company_of : Addr} {od_company_of an_company_of : Option Addr} {sl_company_of : Array (Option Value)} {oc_company_of kV_company_of dc_company_of pm_company_of cd_company_of ct_company_of : Value}
    (a_company_of : PySem.W.nsIn K mainGlobals "company_of" = some (some (.ref f_company_of)))
    (l_company_of : K.lookup f_company_of = some ⟨oc_company_of, od_company_of, .func (PySem.W.fnOf "company_of" "company_of" (defArgs s_company_of) (defBody s_company_of) (defScope s_company_of) .none kV_company_of dc_company_of pm_company_of an_company_of cd_company_of ct_company_of), sl_company_of⟩)
    (c_company_of : PySem.W.codeIn K cd_company_of "company_of" = true)
    (k_company_of : PySem.W.keepIn K (.ref f_company_of) = true)
    {f_by_companies tc_by_companies tP_by_companies : Addr} {od_by_companies an_by_companies oe_by_companies : Option Addr} {sl_by_companies se_by_companies : Array (Option Value)} {oc_by_companies kV_by_companies dc_by_companies pm_by_companies ct_by_companies ob_by_companies : Value} {vs_by_companies : Array Value}
    (a_by_companies : PySem.W.nsIn K mainGlobals "by_companies" = some (some (.ref f_by_companies)))
    (l_by_companies : K.lookup f_by_companies = some ⟨oc_by_companies, od_by_companies, .func (PySem.W.fnOf "by_companies" "by_companies" (defArgs s_by_companies) (defBody s_by_companies) (defScope s_by_companies) .none kV_by_companies dc_by_companies pm_by_companies an_by_companies (.ref tc_by_companies) ct_by_companies), sl_by_companies⟩)
    (c_by_companies : PySem.W.codeIn K (.ref tc_by_companies) "by_companies" = true)
    (k_by_companies : PySem.W.keepIn K (.ref f_by_companies) = true)
    (tl_by_companies : K.lookup tc_by_companies = some ⟨ob_by_companies, oe_by_companies, .fields vs_by_companies, se_by_companies⟩)
    (tv_by_companies : (vs_by_companies[11]? : Option Value) = some (.ref tP_by_companies))
    (tn_by_companies : K.lookup tP_by_companies = none)
    {f_want_at : Addr} {od_want_at an_want_at : Option Addr} {sl_want_at : Array (Option Value)} {oc_want_at kV_want_at dc_want_at pm_want_at cd_want_at ct_want_at : Value}
    (a_want_at : PySem.W.nsIn K mainGlobals "want_at" = some (some (.ref f_want_at)))
    (l_want_at : K.lookup f_want_at = some ⟨oc_want_at, od_want_at, .func (PySem.W.fnOf "want_at" "want_at" (defArgs s_want_at) (defBody s_want_at) (defScope s_want_at) .none kV_want_at dc_want_at pm_want_at an_want_at cd_want_at ct_want_at), sl_want_at⟩)
    (c_want_at : PySem.W.codeIn K cd_want_at "want_at" = true)
    (k_want_at : PySem.W.keepIn K (.ref f_want_at) = true)
    {f_plan_at : Addr} {od_plan_at an_plan_at : Option Addr} {sl_plan_at : Array (Option Value)} {oc_plan_at kV_plan_at dc_plan_at pm_plan_at cd_plan_at ct_plan_at : Value}
    (a_plan_at : PySem.W.nsIn K mainGlobals "plan_at" = some (some (.ref f_plan_at)))
    (l_plan_at : K.lookup f_plan_at = some ⟨oc_plan_at, od_plan_at, .func (PySem.W.fnOf "plan_at" "plan_at" (defArgs s_plan_at) (defBody s_plan_at) (defScope s_plan_at) .none kV_plan_at dc_plan_at pm_plan_at an_plan_at cd_plan_at ct_plan_at), sl_plan_at⟩)
    (c_plan_at : PySem.W.codeIn K cd_plan_at "plan_at" = true)
    (k_plan_at : PySem.W.keepIn K (.ref f_plan_at) = true)
    {f_is_row : Addr} {od_is_row an_is_row : Option Addr} {sl_is_row : Array (Option Value)} {oc_is_row kV_is_row dc_is_row pm_is_row cd_is_row ct_is_row : Value}
    (a_is_row : PySem.W.nsIn K mainGlobals "is_row" = some (some (.ref f_is_row)))
    (l_is_row : K.lookup f_is_row = some ⟨oc_is_row, od_is_row, .func (PySem.W.fnOf "is_row" "is_row" (defArgs s_is_row) (defBody s_is_row) (defScope s_is_row) .none kV_is_row dc_is_row pm_is_row an_is_row cd_is_row ct_is_row), sl_is_row⟩)
    (c_is_row : PySem.W.codeIn K cd_is_row "is_row" = true)
    (k_is_row : PySem.W.keepIn K (.ref f_is_row) = true)
    {f_is_end : Addr} {od_is_end an_is_end : Option Addr} {sl_is_end : Array (Option Value)} {oc_is_end kV_is_end dc_is_end pm_is_end cd_is_end ct_is_end : Value}
    (a_is_end : PySem.W.nsIn K mainGlobals "is_end" = some (some (.ref f_is_end)))
    (l_is_end : K.lookup f_is_end = some ⟨oc_is_end, od_is_end, .func (PySem.W.fnOf "is_end" "is_end" (defArgs s_is_end) (defBody s_is_end) (defScope s_is_end) .none kV_is_end dc_is_end pm_is_end an_is_end cd_is_end ct_is_end), sl_is_end⟩)
    (c_is_end : PySem.W.codeIn K cd_is_end "is_end" = true)
    (k_is_end : PySem.W.keepIn K (.ref f_is_end) = true)
    {f_are_pairs : Addr} {od_are_pairs an_are_pairs : Option Addr} {sl_are_pairs : Array (Option Value)} {oc_are_pairs kV_are_pairs dc_are_pairs pm_are_pairs cd_are_pairs ct_are_pairs : Value}
    (a_are_pairs : PySem.W.nsIn K mainGlobals "are_pairs" = some (some (.ref f_are_pairs)))
    (l_are_pairs : K.lookup f_are_pairs = some ⟨oc_are_pairs, od_are_pairs, .func (PySem.W.fnOf "are_pairs" "are_pairs" (defArgs s_are_pairs) (defBody s_are_pairs) (defScope s_are_pairs) .none kV_are_pairs dc_are_pairs pm_are_pairs an_are_pairs cd_are_pairs ct_are_pairs), sl_are_pairs⟩)
    (c_are_pairs : PySem.W.codeIn K cd_are_pairs "are_pairs" = true)
    (k_are_pairs : PySem.W.keepIn K (.ref f_are_pairs) = true)
    {f_plan_shows : Addr} {od_plan_shows an_plan_shows : Option Addr} {sl_plan_shows : Array (Option Value)} {oc_plan_shows kV_plan_shows dc_plan_shows pm_plan_shows cd_plan_shows ct_plan_shows : Value}
    (a_plan_shows : PySem.W.nsIn K mainGlobals "plan_shows" = some (some (.ref f_plan_shows)))
    (l_plan_shows : K.lookup f_plan_shows = some ⟨oc_plan_shows, od_plan_shows, .func (PySem.W.fnOf "plan_shows" "plan_shows" (defArgs s_plan_shows) (defBody s_plan_shows) (defScope s_plan_shows) .none kV_plan_shows dc_plan_shows pm_plan_shows an_plan_shows cd_plan_shows ct_plan_shows), sl_plan_shows⟩)
    (c_plan_shows : PySem.W.codeIn K cd_plan_shows "plan_shows" = true)
    (k_plan_shows : PySem.W.keepIn K (.ref f_plan_shows) = true)
    {f_multiplied : Addr} {od_multiplied an_multiplied : Option Addr} {sl_multiplied : Array (Option Value)} {oc_multiplied kV_multiplied dc_multiplied pm_multiplied cd_multiplied ct_multiplied : Value}
    (a_multiplied : PySem.W.nsIn K mainGlobals "multiplied" = some (some (.ref f_multiplied)))
    (l_multiplied : K.lookup f_multiplied = some ⟨oc_multiplied, od_multiplied, .func (PySem.W.fnOf "multiplied" "multiplied" (defArgs s_multiplied) (defBody s_multiplied) (defScope s_multiplied) .none kV_multiplied dc_multiplied pm_multiplied an_multiplied cd_multiplied ct_multiplied), sl_multiplied⟩)
    (c_multiplied : PySem.W.codeIn K cd_multiplied "multiplied" = true)
    (k_multiplied : PySem.W.keepIn K (.ref f_multiplied) = true)
    {f_within_company : Addr} {od_within_company an_within_company : Option Addr} {sl_within_company : Array (Option Value)} {oc_within_company kV_within_company dc_within_company pm_within_company cd_within_company ct_within_company : Value}
    (a_within_company : PySem.W.nsIn K mainGlobals "within_company" = some (some (.ref f_within_company)))
    (l_within_company : K.lookup f_within_company = some ⟨oc_within_company, od_within_company, .func (PySem.W.fnOf "within_company" "within_company" (defArgs s_within_company) (defBody s_within_company) (defScope s_within_company) .none kV_within_company dc_within_company pm_within_company an_within_company cd_within_company ct_within_company), sl_within_company⟩)
    (c_within_company : PySem.W.codeIn K cd_within_company "within_company" = true)
    (k_within_company : PySem.W.keepIn K (.ref f_within_company) = true)
    {f_all_paired : Addr} {od_all_paired an_all_paired : Option Addr} {sl_all_paired : Array (Option Value)} {oc_all_paired kV_all_paired dc_all_paired pm_all_paired cd_all_paired ct_all_paired : Value}
    (a_all_paired : PySem.W.nsIn K mainGlobals "all_paired" = some (some (.ref f_all_paired)))
    (l_all_paired : K.lookup f_all_paired = some ⟨oc_all_paired, od_all_paired, .func (PySem.W.fnOf "all_paired" "all_paired" (defArgs s_all_paired) (defBody s_all_paired) (defScope s_all_paired) .none kV_all_paired dc_all_paired pm_all_paired an_all_paired cd_all_paired ct_all_paired), sl_all_paired⟩)
    (c_all_paired : PySem.W.codeIn K cd_all_paired "all_paired" = true)
    (k_all_paired : PySem.W.keepIn K (.ref f_all_paired) = true)
    {f_plans_counted : Addr} {od_plans_counted an_plans_counted : Option Addr} {sl_plans_counted : Array (Option Value)} {oc_plans_counted kV_plans_counted dc_plans_counted pm_plans_counted cd_plans_counted ct_plans_counted : Value}
    (a_plans_counted : PySem.W.nsIn K mainGlobals "plans_counted" = some (some (.ref f_plans_counted)))
    (l_plans_counted : K.lookup f_plans_counted = some ⟨oc_plans_counted, od_plans_counted, .func (PySem.W.fnOf "plans_counted" "plans_counted" (defArgs s_plans_counted) (defBody s_plans_counted) (defScope s_plans_counted) .none kV_plans_counted dc_plans_counted pm_plans_counted an_plans_counted cd_plans_counted ct_plans_counted), sl_plans_counted⟩)
    (c_plans_counted : PySem.W.codeIn K cd_plans_counted "plans_counted" = true)
    (k_plans_counted : PySem.W.keepIn K (.ref f_plans_counted) = true)
    {f__law_asked : Addr} {od__law_asked an__law_asked : Option Addr} {sl__law_asked : Array (Option Value)} {oc__law_asked kV__law_asked dc__law_asked pm__law_asked cd__law_asked ct__law_asked : Value}
    (a__law_asked : PySem.W.nsIn K mainGlobals "_law_asked" = some (some (.ref f__law_asked)))
    (l__law_asked : K.lookup f__law_asked = some ⟨oc__law_asked, od__law_asked, .func (PySem.W.fnOf "_law_asked" "_law_asked" (defArgs s__law_asked) (defBody s__law_asked) (defScope s__law_asked) .none kV__law_asked dc__law_asked pm__law_asked an__law_asked cd__law_asked ct__law_asked), sl__law_asked⟩)
    (c__law_asked : PySem.W.codeIn K cd__law_asked "_law_asked" = true)
    (k__law_asked : PySem.W.keepIn K (.ref f__law_asked) = true)
    {f_law : Addr} {od_law an_law : Option Addr} {sl_law : Array (Option Value)} {oc_law kV_law dc_law pm_law cd_law ct_law : Value}
    (a_law : PySem.W.nsIn K mainGlobals "law" = some (some (.ref f_law)))
    (l_law : K.lookup f_law = some ⟨oc_law, od_law, .func (PySem.W.fnOf "law" "law" (defArgs s_law) (defBody s_law) (defScope s_law) .none kV_law dc_law pm_law an_law cd_law ct_law), sl_law⟩)
    (c_law : PySem.W.codeIn K cd_law "law" = true)
    (k_law : PySem.W.keepIn K (.ref f_law) = true)
    (z_ValueError : PySem.W.nsIn K mainGlobals "ValueError" = some none)
    (z_all : PySem.W.nsIn K mainGlobals "all" = some none)
    (z_bool : PySem.W.nsIn K mainGlobals "bool" = some none)
    (z_enumerate : PySem.W.nsIn K mainGlobals "enumerate" = some none)
    (z_int : PySem.W.nsIn K mainGlobals "int" = some none)
    (z_isinstance : PySem.W.nsIn K mainGlobals "isinstance" = some none)
    (z_len : PySem.W.nsIn K mainGlobals "len" = some none)
    (z_list : PySem.W.nsIn K mainGlobals "list" = some none)
    (z_max : PySem.W.nsIn K mainGlobals "max" = some none)
    (z_min : PySem.W.nsIn K mainGlobals "min" = some none)
    (z_range : PySem.W.nsIn K mainGlobals "range" = some none)
    (z_sorted : PySem.W.nsIn K mainGlobals "sorted" = some none)
    (z_sum : PySem.W.nsIn K mainGlobals "sum" = some none)
    (z_tuple : PySem.W.nsIn K mainGlobals "tuple" = some none)
    (z_zip : PySem.W.nsIn K mainGlobals "zip" = some none)
    {t_SIDES : Tok}
    (n_SIDES : PySem.W.nsIn K mainGlobals "SIDES" = some (some (.int 2 t_SIDES)))
    {fc_NoCompany : Addr}
    (ac_NoCompany : PySem.W.nsIn K mainGlobals "NoCompany" = some (some (.ref fc_NoCompany)))
    {fc_NoEnd : Addr}
    (ac_NoEnd : PySem.W.nsIn K mainGlobals "NoEnd" = some (some (.ref fc_NoEnd)))
    {fc_NoForm : Addr}
    (ac_NoForm : PySem.W.nsIn K mainGlobals "NoForm" = some (some (.ref fc_NoForm)))
    {fc_NoLine : Addr}
    (ac_NoLine : PySem.W.nsIn K mainGlobals "NoLine" = some (some (.ref fc_NoLine)))
    {fc_NoNumber : Addr}
    (ac_NoNumber : PySem.W.nsIn K mainGlobals "NoNumber" = some (some (.ref fc_NoNumber)))
    {fc_NoPlace : Addr}
    (ac_NoPlace : PySem.W.nsIn K mainGlobals "NoPlace" = some (some (.ref fc_NoPlace)))
    {fc_NoRide : Addr}
    (ac_NoRide : PySem.W.nsIn K mainGlobals "NoRide" = some (some (.ref fc_NoRide)))
    {fc_NoText : Addr}
    (ac_NoText : PySem.W.nsIn K mainGlobals "NoText" = some (some (.ref fc_NoText)))
    {fc_NoTurning : Addr}
    (ac_NoTurning : PySem.W.nsIn K mainGlobals "NoTurning" = some (some (.ref fc_NoTurning)))
    {fc_NoWeb : Addr}
    (ac_NoWeb : PySem.W.nsIn K mainGlobals "NoWeb" = some (some (.ref fc_NoWeb)))
    {fc_NoneYet : Addr}
    (ac_NoneYet : PySem.W.nsIn K mainGlobals "NoneYet" = some (some (.ref fc_NoneYet)))
    {fc_RideError : Addr}
    (ac_RideError : PySem.W.nsIn K mainGlobals "RideError" = some (some (.ref fc_RideError)))
    {fc_TooMany : Addr}
    (ac_TooMany : PySem.W.nsIn K mainGlobals "TooMany" = some (some (.ref fc_TooMany)))
    (xx_NoPlace : PySem.W.excIn K fc_NoPlace [.type "ValueError", .type "Exception", .type "BaseException", .type "object"] "ValueError.__new__" = true)
    (xk_NoPlace : PySem.W.keepIn K (.ref fc_NoPlace) = true)
    (xe_NoPlace : ExcC K fc_NoPlace)
    (xb_NoCompany : PySem.W.subIn K (.ref fc_NoCompany) (.type "BaseException") = some true)
    (xt_NoCompany : PySem.W.typeIn K (.ref fc_NoCompany) = some (.type "type"))
    (xi_NoCompany : PySem.W.isClsIn K fc_NoCompany = true)
    (xb_NoEnd : PySem.W.subIn K (.ref fc_NoEnd) (.type "BaseException") = some true)
    (xt_NoEnd : PySem.W.typeIn K (.ref fc_NoEnd) = some (.type "type"))
    (xi_NoEnd : PySem.W.isClsIn K fc_NoEnd = true)
    (xb_NoForm : PySem.W.subIn K (.ref fc_NoForm) (.type "BaseException") = some true)
    (xt_NoForm : PySem.W.typeIn K (.ref fc_NoForm) = some (.type "type"))
    (xi_NoForm : PySem.W.isClsIn K fc_NoForm = true)
    (xb_NoLine : PySem.W.subIn K (.ref fc_NoLine) (.type "BaseException") = some true)
    (xt_NoLine : PySem.W.typeIn K (.ref fc_NoLine) = some (.type "type"))
    (xi_NoLine : PySem.W.isClsIn K fc_NoLine = true)
    (xb_NoNumber : PySem.W.subIn K (.ref fc_NoNumber) (.type "BaseException") = some true)
    (xt_NoNumber : PySem.W.typeIn K (.ref fc_NoNumber) = some (.type "type"))
    (xi_NoNumber : PySem.W.isClsIn K fc_NoNumber = true)
    (xb_NoPlace : PySem.W.subIn K (.ref fc_NoPlace) (.type "BaseException") = some true)
    (xt_NoPlace : PySem.W.typeIn K (.ref fc_NoPlace) = some (.type "type"))
    (xi_NoPlace : PySem.W.isClsIn K fc_NoPlace = true)
    (xb_NoRide : PySem.W.subIn K (.ref fc_NoRide) (.type "BaseException") = some true)
    (xt_NoRide : PySem.W.typeIn K (.ref fc_NoRide) = some (.type "type"))
    (xi_NoRide : PySem.W.isClsIn K fc_NoRide = true)
    (xb_NoText : PySem.W.subIn K (.ref fc_NoText) (.type "BaseException") = some true)
    (xt_NoText : PySem.W.typeIn K (.ref fc_NoText) = some (.type "type"))
    (xi_NoText : PySem.W.isClsIn K fc_NoText = true)
    (xb_NoTurning : PySem.W.subIn K (.ref fc_NoTurning) (.type "BaseException") = some true)
    (xt_NoTurning : PySem.W.typeIn K (.ref fc_NoTurning) = some (.type "type"))
    (xi_NoTurning : PySem.W.isClsIn K fc_NoTurning = true)
    (xb_NoWeb : PySem.W.subIn K (.ref fc_NoWeb) (.type "BaseException") = some true)
    (xt_NoWeb : PySem.W.typeIn K (.ref fc_NoWeb) = some (.type "type"))
    (xi_NoWeb : PySem.W.isClsIn K fc_NoWeb = true)
    (xb_NoneYet : PySem.W.subIn K (.ref fc_NoneYet) (.type "BaseException") = some true)
    (xt_NoneYet : PySem.W.typeIn K (.ref fc_NoneYet) = some (.type "type"))
    (xi_NoneYet : PySem.W.isClsIn K fc_NoneYet = true)
    (xb_RideError : PySem.W.subIn K (.ref fc_RideError) (.type "BaseException") = some true)
    (xt_RideError : PySem.W.typeIn K (.ref fc_RideError) = some (.type "type"))
    (xi_RideError : PySem.W.isClsIn K fc_RideError = true)
    (xb_TooMany : PySem.W.subIn K (.ref fc_TooMany) (.type "BaseException") = some true)
    (xt_TooMany : PySem.W.typeIn K (.ref fc_TooMany) = some (.type "type"))
    (xi_TooMany : PySem.W.isClsIn K fc_TooMany = true)
    (xs_NoPlace_NoCompany : PySem.W.subIn K (.ref fc_NoPlace) (.ref fc_NoCompany) = some false)
    (xs_NoPlace_NoEnd : PySem.W.subIn K (.ref fc_NoPlace) (.ref fc_NoEnd) = some false)
    (xs_NoPlace_NoForm : PySem.W.subIn K (.ref fc_NoPlace) (.ref fc_NoForm) = some false)
    (xs_NoPlace_NoLine : PySem.W.subIn K (.ref fc_NoPlace) (.ref fc_NoLine) = some false)
    (xs_NoPlace_NoNumber : PySem.W.subIn K (.ref fc_NoPlace) (.ref fc_NoNumber) = some false)
    (xs_NoPlace_NoPlace : PySem.W.subIn K (.ref fc_NoPlace) (.ref fc_NoPlace) = some true)
    (xs_NoPlace_NoRide : PySem.W.subIn K (.ref fc_NoPlace) (.ref fc_NoRide) = some false)
    (xs_NoPlace_NoText : PySem.W.subIn K (.ref fc_NoPlace) (.ref fc_NoText) = some false)
    (xs_NoPlace_NoTurning : PySem.W.subIn K (.ref fc_NoPlace) (.ref fc_NoTurning) = some false)
    (xs_NoPlace_NoWeb : PySem.W.subIn K (.ref fc_NoPlace) (.ref fc_NoWeb) = some false)
    (xs_NoPlace_NoneYet : PySem.W.subIn K (.ref fc_NoPlace) (.ref fc_NoneYet) = some false)
    (xs_NoPlace_RideError : PySem.W.subIn K (.ref fc_NoPlace) (.ref fc_RideError) = some true)
    (xs_NoPlace_TooMany : PySem.W.subIn K (.ref fc_NoPlace) (.ref fc_TooMany) = some false)
    (xv_NoPlace_ValueError : PySem.W.subIn K (.ref fc_NoPlace) (.type "ValueError") = some true)
    : ∃ (tc tP : Addr) (fd : FuncData) (sp : Sp), PySem.W.tabIn K "by_companies" = some (tc, tP) ∧ K.lookup tP = none ∧ (∀ (s : Shared) (v : Value), BindsTo s fd ⟨[v], []⟩ [("script", v)]) ∧ (∀ (H : Hp) (a : Addr) (ns : List Int), ns.length ≤ 63 → H tP = some (.tbl #[]) → SqL K H a (ns.map V.int) → sp [.ref a] H (fun v _ => v = .bl true) fun _ _ _ => False) ∧
      ∀ base : Heap, K.In base → base.Ns mainGlobals mg → LamX.TabB base mg tc tP → FnG l.prog w K mg base 11 fa fd ["script"] sp := by
  have e := hfa.symm.trans (PySem.W.mg_of X G a_law)
  cases e
  letI : TabsC := ⟨[(tP_by_companies, "by_companies.<locals>.<lambda>")], [(tc_by_companies, tP_by_companies)]⟩
  have T : ∀ base : Heap, LamX.TabB base mg tc_by_companies tP_by_companies → Tx K mg base := fun base tb => {
    tabs := fun p hp => by cases List.mem_singleton.mp hp; exact tb
    d__law_reel := ⟨_, _, PySem.W.mg_of X G a__law_reel, fun_mk (st := s__law_reel) l__law_reel c__law_reel k__law_reel, (fun_mk (st := s__law_reel) l__law_reel c__law_reel k__law_reel).binds (ps := ["script"]) fun _ _ _ _ _ _ us hl => match us, hl with | [_], _ => rfl⟩
    d__law_draw := ⟨_, _, PySem.W.mg_of X G a__law_draw, fun_mk (st := s__law_draw) l__law_draw c__law_draw k__law_draw, (fun_mk (st := s__law_draw) l__law_draw c__law_draw k__law_draw).binds (ps := ["reel", "many"]) fun _ _ _ _ _ _ us hl => match us, hl with | [_, _], _ => rfl⟩
    d__law_dressed := ⟨_, _, PySem.W.mg_of X G a__law_dressed, fun_mk (st := s__law_dressed) l__law_dressed c__law_dressed k__law_dressed, (fun_mk (st := s__law_dressed) l__law_dressed c__law_dressed k__law_dressed).binds (ps := ["reel", "thing"]) fun _ _ _ _ _ _ us hl => match us, hl with | [_, _], _ => rfl⟩
    d__law_net := ⟨_, _, PySem.W.mg_of X G a__law_net, fun_mk (st := s__law_net) l__law_net c__law_net k__law_net, (fun_mk (st := s__law_net) l__law_net c__law_net k__law_net).binds (ps := ["reel", "most"]) fun _ _ _ _ _ _ us hl => match us, hl with | [_, _], _ => rfl⟩
    d__law_kind_of := ⟨_, _, PySem.W.mg_of X G a__law_kind_of, fun_mk (st := s__law_kind_of) l__law_kind_of c__law_kind_of k__law_kind_of, (fun_mk (st := s__law_kind_of) l__law_kind_of c__law_kind_of k__law_kind_of).binds (ps := ["e"]) fun _ _ _ _ _ _ us hl => match us, hl with | [_], _ => rfl⟩
    d_want_of := ⟨_, _, PySem.W.mg_of X G a_want_of, fun_mk (st := s_want_of) l_want_of c_want_of k_want_of, (fun_mk (st := s_want_of) l_want_of c_want_of k_want_of).binds (ps := ["sizes"]) fun _ _ _ _ _ _ us hl => match us, hl with | [_], _ => rfl⟩
    d_is_whole := ⟨_, _, PySem.W.mg_of X G a_is_whole, fun_mk (st := s_is_whole) l_is_whole c_is_whole k_is_whole, (fun_mk (st := s_is_whole) l_is_whole c_is_whole k_is_whole).binds (ps := ["thing"]) fun _ _ _ _ _ _ us hl => match us, hl with | [_], _ => rfl⟩
    d_need_place := ⟨_, _, PySem.W.mg_of X G a_need_place, fun_mk (st := s_need_place) l_need_place c_need_place k_need_place, (fun_mk (st := s_need_place) l_need_place c_need_place k_need_place).binds (ps := ["web", "place"]) fun _ _ _ _ _ _ us hl => match us, hl with | [_, _], _ => rfl⟩
    d_all_ends := ⟨_, _, PySem.W.mg_of X G a_all_ends, fun_mk (st := s_all_ends) l_all_ends c_all_ends k_all_ends, (fun_mk (st := s_all_ends) l_all_ends c_all_ends k_all_ends).binds (ps := ["web"]) fun _ _ _ _ _ _ us hl => match us, hl with | [_], _ => rfl⟩
    d_place_of := ⟨_, _, PySem.W.mg_of X G a_place_of, fun_mk (st := s_place_of) l_place_of c_place_of k_place_of, (fun_mk (st := s_place_of) l_place_of c_place_of k_place_of).binds (ps := ["web", "end"]) fun _ _ _ _ _ _ us hl => match us, hl with | [_, _], _ => rfl⟩
    d_ends_at := ⟨_, _, PySem.W.mg_of X G a_ends_at, fun_mk (st := s_ends_at) l_ends_at c_ends_at k_ends_at, (fun_mk (st := s_ends_at) l_ends_at c_ends_at k_ends_at).binds (ps := ["web", "place"]) fun _ _ _ _ _ _ us hl => match us, hl with | [_, _], _ => rfl⟩
    d_company_of := ⟨_, _, PySem.W.mg_of X G a_company_of, fun_mk (st := s_company_of) l_company_of c_company_of k_company_of, (fun_mk (st := s_company_of) l_company_of c_company_of k_company_of).binds (ps := ["web", "end"]) fun _ _ _ _ _ _ us hl => match us, hl with | [_, _], _ => rfl⟩
    d_by_companies := ⟨_, _, tc_by_companies, tP_by_companies, PySem.W.mg_of X G a_by_companies, funT_mk (st := s_by_companies) (tabIn_mk a_by_companies l_by_companies rfl tl_by_companies tv_by_companies) a_by_companies l_by_companies c_by_companies k_by_companies, (fun_mk (st := s_by_companies) l_by_companies c_by_companies k_by_companies).binds (ps := ["web", "place"]) fun _ _ _ _ _ _ us hl => match us, hl with | [_, _], _ => rfl, List.mem_singleton.mpr rfl, List.mem_singleton.mpr rfl, fun p hp _ => by cases List.mem_singleton.mp hp; rfl⟩
    d_want_at := ⟨_, _, PySem.W.mg_of X G a_want_at, fun_mk (st := s_want_at) l_want_at c_want_at k_want_at, (fun_mk (st := s_want_at) l_want_at c_want_at k_want_at).binds (ps := ["web", "place"]) fun _ _ _ _ _ _ us hl => match us, hl with | [_, _], _ => rfl⟩
    d_plan_at := ⟨_, _, PySem.W.mg_of X G a_plan_at, fun_mk (st := s_plan_at) l_plan_at c_plan_at k_plan_at, (fun_mk (st := s_plan_at) l_plan_at c_plan_at k_plan_at).binds (ps := ["web", "place"]) fun _ _ _ _ _ _ us hl => match us, hl with | [_, _], _ => rfl⟩
    d_is_row := ⟨_, _, PySem.W.mg_of X G a_is_row, fun_mk (st := s_is_row) l_is_row c_is_row k_is_row, (fun_mk (st := s_is_row) l_is_row c_is_row k_is_row).binds (ps := ["thing", "size"]) fun _ _ _ _ _ _ us hl => match us, hl with | [_, _], _ => rfl⟩
    d_is_end := ⟨_, _, PySem.W.mg_of X G a_is_end, fun_mk (st := s_is_end) l_is_end c_is_end k_is_end, (fun_mk (st := s_is_end) l_is_end c_is_end k_is_end).binds (ps := ["web", "thing"]) fun _ _ _ _ _ _ us hl => match us, hl with | [_, _], _ => rfl⟩
    d_are_pairs := ⟨_, _, PySem.W.mg_of X G a_are_pairs, fun_mk (st := s_are_pairs) l_are_pairs c_are_pairs k_are_pairs, (fun_mk (st := s_are_pairs) l_are_pairs c_are_pairs k_are_pairs).binds (ps := ["web", "place", "pairs"]) fun _ _ _ _ _ _ us hl => match us, hl with | [_, _, _], _ => rfl⟩
    d_plan_shows := ⟨_, _, PySem.W.mg_of X G a_plan_shows, fun_mk (st := s_plan_shows) l_plan_shows c_plan_shows k_plan_shows, (fun_mk (st := s_plan_shows) l_plan_shows c_plan_shows k_plan_shows).binds (ps := ["web", "place", "plan"]) fun _ _ _ _ _ _ us hl => match us, hl with | [_, _, _], _ => rfl⟩
    d_multiplied := ⟨_, _, PySem.W.mg_of X G a_multiplied, fun_mk (st := s_multiplied) l_multiplied c_multiplied k_multiplied, (fun_mk (st := s_multiplied) l_multiplied c_multiplied k_multiplied).binds (ps := ["one", "other"]) fun _ _ _ _ _ _ us hl => match us, hl with | [_, _], _ => rfl⟩
    d_within_company := ⟨_, _, PySem.W.mg_of X G a_within_company, fun_mk (st := s_within_company) l_within_company c_within_company k_within_company, (fun_mk (st := s_within_company) l_within_company c_within_company k_within_company).binds (ps := ["size"]) fun _ _ _ _ _ _ us hl => match us, hl with | [_], _ => rfl⟩
    d_all_paired := ⟨_, _, PySem.W.mg_of X G a_all_paired, fun_mk (st := s_all_paired) l_all_paired c_all_paired k_all_paired, (fun_mk (st := s_all_paired) l_all_paired c_all_paired k_all_paired).binds (ps := ["many"]) fun _ _ _ _ _ _ us hl => match us, hl with | [_], _ => rfl⟩
    d_plans_counted := ⟨_, _, PySem.W.mg_of X G a_plans_counted, fun_mk (st := s_plans_counted) l_plans_counted c_plans_counted k_plans_counted, (fun_mk (st := s_plans_counted) l_plans_counted c_plans_counted k_plans_counted).binds (ps := ["web", "place"]) fun _ _ _ _ _ _ us hl => match us, hl with | [_, _], _ => rfl⟩
    d__law_asked := ⟨_, _, PySem.W.mg_of X G a__law_asked, fun_mk (st := s__law_asked) l__law_asked c__law_asked k__law_asked, (fun_mk (st := s__law_asked) l__law_asked c__law_asked k__law_asked).binds (ps := ["door", "net", "place"]) fun _ _ _ _ _ _ us hl => match us, hl with | [_, _, _], _ => rfl⟩
    d_law := ⟨_, _, PySem.W.mg_of X G a_law, fun_mk (st := s_law) l_law c_law k_law, (fun_mk (st := s_law) l_law c_law k_law).binds (ps := ["script"]) fun _ _ _ _ _ _ us hl => match us, hl with | [_], _ => rfl⟩
    z_ValueError := PySem.W.mg_none_of X G z_ValueError
    z_all := PySem.W.mg_none_of X G z_all
    z_bool := PySem.W.mg_none_of X G z_bool
    z_enumerate := PySem.W.mg_none_of X G z_enumerate
    z_int := PySem.W.mg_none_of X G z_int
    z_isinstance := PySem.W.mg_none_of X G z_isinstance
    z_len := PySem.W.mg_none_of X G z_len
    z_list := PySem.W.mg_none_of X G z_list
    z_max := PySem.W.mg_none_of X G z_max
    z_min := PySem.W.mg_none_of X G z_min
    z_range := PySem.W.mg_none_of X G z_range
    z_sorted := PySem.W.mg_none_of X G z_sorted
    z_sum := PySem.W.mg_none_of X G z_sum
    z_tuple := PySem.W.mg_none_of X G z_tuple
    z_zip := PySem.W.mg_none_of X G z_zip
    c_SIDES := ⟨_, PySem.W.mg_of X G n_SIDES⟩
    x_NoPlace := ⟨_, ac_NoPlace, PySem.W.mg_of X G ac_NoPlace, xx_NoPlace, xk_NoPlace, xb_NoPlace, xt_NoPlace⟩
    i_NoCompany := ⟨_, PySem.W.mg_of X G ac_NoCompany, (alls_cons (ExcIs.mk ac_NoPlace xe_NoPlace (kit_own xx_NoPlace xi_NoCompany xt_NoCompany xs_NoPlace_NoCompany) (by decide +kernel)) alls_nil)⟩
    i_NoEnd := ⟨_, PySem.W.mg_of X G ac_NoEnd, (alls_cons (ExcIs.mk ac_NoPlace xe_NoPlace (kit_own xx_NoPlace xi_NoEnd xt_NoEnd xs_NoPlace_NoEnd) (by decide +kernel)) alls_nil)⟩
    i_NoForm := ⟨_, PySem.W.mg_of X G ac_NoForm, (alls_cons (ExcIs.mk ac_NoPlace xe_NoPlace (kit_own xx_NoPlace xi_NoForm xt_NoForm xs_NoPlace_NoForm) (by decide +kernel)) alls_nil)⟩
    i_NoLine := ⟨_, PySem.W.mg_of X G ac_NoLine, (alls_cons (ExcIs.mk ac_NoPlace xe_NoPlace (kit_own xx_NoPlace xi_NoLine xt_NoLine xs_NoPlace_NoLine) (by decide +kernel)) alls_nil)⟩
    i_NoNumber := ⟨_, PySem.W.mg_of X G ac_NoNumber, (alls_cons (ExcIs.mk ac_NoPlace xe_NoPlace (kit_own xx_NoPlace xi_NoNumber xt_NoNumber xs_NoPlace_NoNumber) (by decide +kernel)) alls_nil)⟩
    i_NoPlace := ⟨_, PySem.W.mg_of X G ac_NoPlace, (alls_cons (ExcIs.mk ac_NoPlace xe_NoPlace (kit_own xx_NoPlace xi_NoPlace xt_NoPlace xs_NoPlace_NoPlace) (by decide +kernel)) alls_nil)⟩
    i_NoRide := ⟨_, PySem.W.mg_of X G ac_NoRide, (alls_cons (ExcIs.mk ac_NoPlace xe_NoPlace (kit_own xx_NoPlace xi_NoRide xt_NoRide xs_NoPlace_NoRide) (by decide +kernel)) alls_nil)⟩
    i_NoText := ⟨_, PySem.W.mg_of X G ac_NoText, (alls_cons (ExcIs.mk ac_NoPlace xe_NoPlace (kit_own xx_NoPlace xi_NoText xt_NoText xs_NoPlace_NoText) (by decide +kernel)) alls_nil)⟩
    i_NoTurning := ⟨_, PySem.W.mg_of X G ac_NoTurning, (alls_cons (ExcIs.mk ac_NoPlace xe_NoPlace (kit_own xx_NoPlace xi_NoTurning xt_NoTurning xs_NoPlace_NoTurning) (by decide +kernel)) alls_nil)⟩
    i_NoWeb := ⟨_, PySem.W.mg_of X G ac_NoWeb, (alls_cons (ExcIs.mk ac_NoPlace xe_NoPlace (kit_own xx_NoPlace xi_NoWeb xt_NoWeb xs_NoPlace_NoWeb) (by decide +kernel)) alls_nil)⟩
    i_NoneYet := ⟨_, PySem.W.mg_of X G ac_NoneYet, (alls_cons (ExcIs.mk ac_NoPlace xe_NoPlace (kit_own xx_NoPlace xi_NoneYet xt_NoneYet xs_NoPlace_NoneYet) (by decide +kernel)) alls_nil)⟩
    i_TooMany := ⟨_, PySem.W.mg_of X G ac_TooMany, (alls_cons (ExcIs.mk ac_NoPlace xe_NoPlace (kit_own xx_NoPlace xi_TooMany xt_TooMany xs_NoPlace_TooMany) (by decide +kernel)) alls_nil)⟩
    b_ValueError := (alls_cons (ExcIs.mk ac_NoPlace xe_NoPlace (kit_bt (by decide +kernel) xv_NoPlace_ValueError) rfl) alls_nil)
    t_RideError := ⟨_, PySem.W.mg_of X G ac_RideError, (alls_cons (cls_one ac_NoPlace (exm_own xb_RideError xi_RideError xt_RideError xs_NoPlace_RideError)) alls_nil)⟩
  }
  exact ⟨tc_by_companies, tP_by_companies, PySem.W.fnOf "law" "law" (defArgs s_law) (defBody s_law) (defScope s_law) .none kV_law dc_law pm_law an_law cd_law ct_law, spLawT K (mScr 9 g_law), tabIn_mk a_by_companies l_by_companies rfl tl_by_companies tv_by_companies, tn_by_companies, fun s v => .of_eq rfl, fun H a ns hl ht hS => ⟨a, ns, rfl, hS, hl, law_true ns hl, (fun p hp => by cases List.mem_singleton.mp hp; exact LamX.TabS.nil ht), fun _ => rfl⟩, fun base _ _ tb => FnG.of (fn_lawT (fun_mk (st := s_law) l_law c_law k_law) sc_law rfl (by decide) (law_body (T base tb) _))⟩
end Lw.k12
open PySem PySem.W PyProof.Rows
set_option maxHeartbeats 0 in
theorem PySem.Challenge.cw_changeride_k12_wants_refused_holds : PySem.Challenge.rw_changeride_k12_wants_refused.Holds := by
  w_on; o_law; k_head; (case hw => w_witness2)
  k_fill
  refine Fu.walk_tabG (l := PySem.Challenge.rw_changeride_k12_wants_refused) (n := 63) (k := 11) (x := "script") (y := "by_companies") rfl (by decide) rfl ⟨rfl, by decide, by decide⟩ (fun w h Y => PySem.W.km_in_of Y) ?e1 ?F
  case e1 => (first | rfl | decide +kernel)
  case F =>
    intro w mg fa h KX G hmg
    refine' Lw.k12.all_mk KX G hmg ?a__law_reel ?l__law_reel ?c__law_reel ?k__law_reel ?a__law_draw ?l__law_draw ?c__law_draw ?k__law_draw ?a__law_dressed ?l__law_dressed ?c__law_dressed ?k__law_dressed ?a__law_net ?l__law_net ?c__law_net ?k__law_net ?a__law_kind_of ?l__law_kind_of ?c__law_kind_of ?k__law_kind_of ?a_want_of ?l_want_of ?c_want_of ?k_want_of ?a_is_whole ?l_is_whole ?c_is_whole ?k_is_whole ?a_need_place ?l_need_place ?c_need_place ?k_need_place ?a_all_ends ?l_all_ends ?c_all_ends ?k_all_ends ?a_place_of ?l_place_of ?c_place_of ?k_place_of ?a_ends_at ?l_ends_at ?c_ends_at ?k_ends_at ?a_company_of ?l_company_of ?c_company_of ?k_company_of ?a_by_companies ?l_by_companies ?c_by_companies ?k_by_companies ?tl_by_companies ?tv_by_companies ?tn_by_companies ?a_want_at ?l_want_at ?c_want_at ?k_want_at ?a_plan_at ?l_plan_at ?c_plan_at ?k_plan_at ?a_is_row ?l_is_row ?c_is_row ?k_is_row ?a_is_end ?l_is_end ?c_is_end ?k_is_end ?a_are_pairs ?l_are_pairs ?c_are_pairs ?k_are_pairs ?a_plan_shows ?l_plan_shows ?c_plan_shows ?k_plan_shows ?a_multiplied ?l_multiplied ?c_multiplied ?k_multiplied ?a_within_company ?l_within_company ?c_within_company ?k_within_company ?a_all_paired ?l_all_paired ?c_all_paired ?k_all_paired ?a_plans_counted ?l_plans_counted ?c_plans_counted ?k_plans_counted ?a__law_asked ?l__law_asked ?c__law_asked ?k__law_asked ?a_law ?l_law ?c_law ?k_law ?z_ValueError ?z_all ?z_bool ?z_enumerate ?z_int ?z_isinstance ?z_len ?z_list ?z_max ?z_min ?z_range ?z_sorted ?z_sum ?z_tuple ?z_zip ?n_SIDES ?ac_NoCompany ?ac_NoEnd ?ac_NoForm ?ac_NoLine ?ac_NoNumber ?ac_NoPlace ?ac_NoRide ?ac_NoText ?ac_NoTurning ?ac_NoWeb ?ac_NoneYet ?ac_RideError ?ac_TooMany ?xx_NoPlace ?xk_NoPlace ?xe_NoPlace ?xb_NoCompany ?xt_NoCompany ?xi_NoCompany ?xb_NoEnd ?xt_NoEnd ?xi_NoEnd ?xb_NoForm ?xt_NoForm ?xi_NoForm ?xb_NoLine ?xt_NoLine ?xi_NoLine ?xb_NoNumber ?xt_NoNumber ?xi_NoNumber ?xb_NoPlace ?xt_NoPlace ?xi_NoPlace ?xb_NoRide ?xt_NoRide ?xi_NoRide ?xb_NoText ?xt_NoText ?xi_NoText ?xb_NoTurning ?xt_NoTurning ?xi_NoTurning ?xb_NoWeb ?xt_NoWeb ?xi_NoWeb ?xb_NoneYet ?xt_NoneYet ?xi_NoneYet ?xb_RideError ?xt_RideError ?xi_RideError ?xb_TooMany ?xt_TooMany ?xi_TooMany ?xs_NoPlace_NoCompany ?xs_NoPlace_NoEnd ?xs_NoPlace_NoForm ?xs_NoPlace_NoLine ?xs_NoPlace_NoNumber ?xs_NoPlace_NoPlace ?xs_NoPlace_NoRide ?xs_NoPlace_NoText ?xs_NoPlace_NoTurning ?xs_NoPlace_NoWeb ?xs_NoPlace_NoneYet ?xs_NoPlace_RideError ?xs_NoPlace_TooMany ?xv_NoPlace_ValueError
    (case a__law_reel => k_is)
    (case l__law_reel => k_is)
    (case c__law_reel => k_is)
    (case k__law_reel => k_is)
    (case a__law_draw => k_is)
    (case l__law_draw => k_is)
    (case c__law_draw => k_is)
    (case k__law_draw => k_is)
    (case a__law_dressed => k_is)
    (case l__law_dressed => k_is)
    (case c__law_dressed => k_is)
    (case k__law_dressed => k_is)
    (case a__law_net => k_is)
    (case l__law_net => k_is)
    (case c__law_net => k_is)
    (case k__law_net => k_is)
    (case a__law_kind_of => k_is)
    (case l__law_kind_of => k_is)
    (case c__law_kind_of => k_is)
    (case k__law_kind_of => k_is)
    (case a_want_of => k_is)
    (case l_want_of => k_is)
    (case c_want_of => k_is)
    (case k_want_of => k_is)
    (case a_is_whole => k_is)
    (case l_is_whole => k_is)
    (case c_is_whole => k_is)
    (case k_is_whole => k_is)
    (case a_need_place => k_is)
    (case l_need_place => k_is)
    (case c_need_place => k_is)
    (case k_need_place => k_is)
    (case a_all_ends => k_is)
    (case l_all_ends => k_is)
    (case c_all_ends => k_is)
    (case k_all_ends => k_is)
    (case a_place_of => k_is)
    (case l_place_of => k_is)
    (case c_place_of => k_is)
    (case k_place_of => k_is)
    (case a_ends_at => k_is)
    (case l_ends_at => k_is)
    (case c_ends_at => k_is)
    (case k_ends_at => k_is)
    (case a_company_of => k_is)
    (case l_company_of => k_is)
    (case c_company_of => k_is)
    (case k_company_of => k_is)
    (case a_by_companies => k_is)
    (case l_by_companies => k_is)
    (case c_by_companies => k_is)
    (case k_by_companies => k_is)
    (case tl_by_companies => k_is)
    (case tv_by_companies => rfl)
    (case tn_by_companies => rfl)
    (case a_want_at => k_is)
    (case l_want_at => k_is)
    (case c_want_at => k_is)
    (case k_want_at => k_is)
    (case a_plan_at => k_is)
    (case l_plan_at => k_is)
    (case c_plan_at => k_is)
    (case k_plan_at => k_is)
    (case a_is_row => k_is)
    (case l_is_row => k_is)
    (case c_is_row => k_is)
    (case k_is_row => k_is)
    (case a_is_end => k_is)
    (case l_is_end => k_is)
    (case c_is_end => k_is)
    (case k_is_end => k_is)
    (case a_are_pairs => k_is)
    (case l_are_pairs => k_is)
    (case c_are_pairs => k_is)
    (case k_are_pairs => k_is)
    (case a_plan_shows => k_is)
    (case l_plan_shows => k_is)
    (case c_plan_shows => k_is)
    (case k_plan_shows => k_is)
    (case a_multiplied => k_is)
    (case l_multiplied => k_is)
    (case c_multiplied => k_is)
    (case k_multiplied => k_is)
    (case a_within_company => k_is)
    (case l_within_company => k_is)
    (case c_within_company => k_is)
    (case k_within_company => k_is)
    (case a_all_paired => k_is)
    (case l_all_paired => k_is)
    (case c_all_paired => k_is)
    (case k_all_paired => k_is)
    (case a_plans_counted => k_is)
    (case l_plans_counted => k_is)
    (case c_plans_counted => k_is)
    (case k_plans_counted => k_is)
    (case a__law_asked => k_is)
    (case l__law_asked => k_is)
    (case c__law_asked => k_is)
    (case k__law_asked => k_is)
    (case a_law => k_is)
    (case l_law => k_is)
    (case c_law => k_is)
    (case k_law => k_is)
    (case z_ValueError => k_is)
    (case z_all => k_is)
    (case z_bool => k_is)
    (case z_enumerate => k_is)
    (case z_int => k_is)
    (case z_isinstance => k_is)
    (case z_len => k_is)
    (case z_list => k_is)
    (case z_max => k_is)
    (case z_min => k_is)
    (case z_range => k_is)
    (case z_sorted => k_is)
    (case z_sum => k_is)
    (case z_tuple => k_is)
    (case z_zip => k_is)
    (case n_SIDES => k_is)
    (case ac_NoCompany => k_is)
    (case ac_NoEnd => k_is)
    (case ac_NoForm => k_is)
    (case ac_NoLine => k_is)
    (case ac_NoNumber => k_is)
    (case ac_NoPlace => k_is)
    (case ac_NoRide => k_is)
    (case ac_NoText => k_is)
    (case ac_NoTurning => k_is)
    (case ac_NoWeb => k_is)
    (case ac_NoneYet => k_is)
    (case ac_RideError => k_is)
    (case ac_TooMany => k_is)
    (case xx_NoPlace => k_exc)
    (case xk_NoPlace => k_is)
    (case xe_NoPlace => constructor <;> k_is)
    (case xb_NoCompany => k_is)
    (case xt_NoCompany => k_is)
    (case xi_NoCompany => k_is)
    (case xb_NoEnd => k_is)
    (case xt_NoEnd => k_is)
    (case xi_NoEnd => k_is)
    (case xb_NoForm => k_is)
    (case xt_NoForm => k_is)
    (case xi_NoForm => k_is)
    (case xb_NoLine => k_is)
    (case xt_NoLine => k_is)
    (case xi_NoLine => k_is)
    (case xb_NoNumber => k_is)
    (case xt_NoNumber => k_is)
    (case xi_NoNumber => k_is)
    (case xb_NoPlace => k_is)
    (case xt_NoPlace => k_is)
    (case xi_NoPlace => k_is)
    (case xb_NoRide => k_is)
    (case xt_NoRide => k_is)
    (case xi_NoRide => k_is)
    (case xb_NoText => k_is)
    (case xt_NoText => k_is)
    (case xi_NoText => k_is)
    (case xb_NoTurning => k_is)
    (case xt_NoTurning => k_is)
    (case xi_NoTurning => k_is)
    (case xb_NoWeb => k_is)
    (case xt_NoWeb => k_is)
    (case xi_NoWeb => k_is)
    (case xb_NoneYet => k_is)
    (case xt_NoneYet => k_is)
    (case xi_NoneYet => k_is)
    (case xb_RideError => k_is)
    (case xt_RideError => k_is)
    (case xi_RideError => k_is)
    (case xb_TooMany => k_is)
    (case xt_TooMany => k_is)
    (case xi_TooMany => k_is)
    (case xs_NoPlace_NoCompany => k_is)
    (case xs_NoPlace_NoEnd => k_is)
    (case xs_NoPlace_NoForm => k_is)
    (case xs_NoPlace_NoLine => k_is)
    (case xs_NoPlace_NoNumber => k_is)
    (case xs_NoPlace_NoPlace => k_is)
    (case xs_NoPlace_NoRide => k_is)
    (case xs_NoPlace_NoText => k_is)
    (case xs_NoPlace_NoTurning => k_is)
    (case xs_NoPlace_NoWeb => k_is)
    (case xs_NoPlace_NoneYet => k_is)
    (case xs_NoPlace_RideError => k_is)
    (case xs_NoPlace_TooMany => k_is)
    (case xv_NoPlace_ValueError => k_is)
