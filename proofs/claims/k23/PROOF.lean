import PyProof.Rows.All
import Wide.All
import OpenK.AllK
import Wide.FinOn
import HandS.ForMost
import HandS.Flow
import HandS.Deep
import HandS.TupAny
import HandS.Codes
import HandS.IsInst
import HandS.Style
import HandS.Wide
import HandS.Zip
import HandS.Rev
import HandS.Lambda
import HandS.Exc
import HandS.TupLe
import KE.DataMinMax
import KE.SortData
import HandS.Conv
import HandS.Ends
import HandS.RaiseMore
import KE.DataFind
import HandS.Flt
import HandS.ExcIs
import HandS.ExcValue
import HandS.WordsExc
import HandS.Dict
import KE.KDictDisplayH
import HandS.ReplaceLit
import KE.GoesMore
import KE.GoesEnum
import HandS.Set
import HandS.SetBool
import PyProof.MeetsSeq2
import HandS.Text
import KE.SortKeyHeap
import KE.KDictSum
import KE.KDictCopyH
import HandS.SetKeys
import HandS.EndTab
import HandS.Strs
import HandS.NoneIn
import HandS.DictComp
import PyProof.DictWalks
import HandS.SetTxt0
import PySem.Challenge.RW_changeride_k23_ridings_judged
set_option Elab.async false
set_option linter.all false
set_option maxRecDepth 100000

set_option maxHeartbeats 4000000
namespace Fu
open PySem PySem.Spec PyProof.Rows L2

/-! ### the frame: what may be forgotten for the time of a call -/
def Loose : HO → Prop
  | .lst _ => True
  | .dK _ => True
  | .dT _ => True
  | .set _ _ => True
  | _ => False
def lpins (H G : Hp) (h : Heap) : List (Addr × Obj) :=
  (List.range h.objs.size).filterMap fun a => if (H a).isSome = true ∧ (G a).isNone = true then (h.get? a).map fun o => (a, o) else none
theorem mem_lpins {H G : Hp} {h : Heap} {a : Addr} {o : Obj} {u : HO} (h1 : H a = some u) (h2 : G a = none) (h3 : h.get? a = some o) : (a, o) ∈ lpins H G h :=
  List.mem_filterMap.mpr ⟨a, List.mem_range.mpr (Heap.lt_size h3), by simp [h1, h2, h3]⟩
theorem of_lpins {H G : Hp} {h : Heap} {p : Addr × Obj} (hp : p ∈ lpins H G h) : (∃ u, H p.1 = some u) ∧ G p.1 = none ∧ h.get? p.1 = some p.2 := by
  obtain ⟨b, _, e⟩ := List.mem_filterMap.mp hp
  split at e
  · rename_i hc
    cases q : h.get? b with
    | none => rw [q] at e; cases e
    | some u =>
      rw [q] at e
      have e' : (b, u) = p := Option.some.inj e
      subst e'
      exact ⟨Option.isSome_iff_exists.mp hc.1, Option.isNone_iff_eq_none.mp hc.2, q⟩
  · cases e
/-- G within H: what is over may be forgotten -/
structure Sub (G H : Hp) : Prop where
  same : Same G H
  loose : ∀ a o, H a = some o → G a = none → Loose o
theorem Sub.none {G H : Hp} (S : Sub G H) {b : Addr} (e : H b = none) : G b = none := S.same.free e
theorem Sub.keep {G H : Hp} (S : Sub G H) {b : Addr} {o : HO} (e : H b = some o) (n : ¬ Loose o) : G b = some o := by
  cases q : G b with
  | none => exact absurd (S.loose b o e q) n
  | some u => rw [S.same b u q] at e; exact e
theorem Sub.refl (H : Hp) : Sub H H := ⟨Same.refl H, fun a o e n => by rw [e] at n; cases n⟩
def mixH (G H G' : Hp) : Hp := fun a => match G a, H a with
  | none, some o => some o
  | _, _ => G' a
theorem mix_lost {G H G' : Hp} {a : Addr} {o : HO} (h1 : G a = none) (h2 : H a = some o) : mixH G H G' a = some o := by unfold mixH; rw [h1, h2]
theorem mix_held {G H G' : Hp} {a : Addr} {o : HO} (h1 : G a = some o) : mixH G H G' a = G' a := by unfold mixH; rw [h1]
theorem mix_free {G H G' : Hp} {a : Addr} (h2 : H a = none) : mixH G H G' a = G' a := by unfold mixH; rw [h2]; cases G a <;> rfl

section
variable {X : Cx} {pins : List (Addr × Obj)} {σ : L2.St} {H G G' : Hp} {s s' : Shared}
theorem fs_none (I : Inv X pins σ H s) {b : Addr} (hb : b ∈ X.fs) : H b = none := by
  obtain ⟨_, o, ho, _⟩ := I.ok.funs.mem hb
  exact I.base.free b o ho (I.ok.frf b hb) fun z => I.ok.exfs b z hb
theorem loose_cell {P : Program} {w : World} {h : Heap} {a : Addr} {u : HO} {o : Obj} (x : ObjOk P w H h a u) (l : Loose u) (e : h.get? a = some o) : ∀ v, o.data ≠ .cell v := by
  intro v z
  cases u with
  | lst xs => obtain ⟨_, its, n, _, e1⟩ := x; rw [e] at e1; cases e1; cases z
  | dK kvs => obtain ⟨_, _, vs, _, ob, es, ep, e1, _, d, _⟩ := x; rw [e] at e1; cases e1; rw [d] at z; cases z
  | dT kvs => obtain ⟨_, _, vs, _, ob, es, ep, e1, _, d, _⟩ := x; rw [e] at e1; cases e1; rw [d] at z; cases z
  | set S n => obtain ⟨ob, es, ep, t, e1, _, d, _⟩ := x; rw [e] at e1; cases e1; rw [d] at z; cases z
  | _ => exact l
theorem loose_there {P : Program} {w : World} {h : Heap} {a : Addr} {u : HO} (x : ObjOk P w H h a u) (l : Loose u) : ∃ o, h.get? a = some o := by
  cases u with
  | lst xs => obtain ⟨_, its, n, _, e1⟩ := x; exact ⟨_, e1⟩
  | dK kvs => obtain ⟨_, _, vs, _, ob, es, ep, e1, _⟩ := x; exact ⟨_, e1⟩
  | dT kvs => obtain ⟨_, _, vs, _, ob, es, ep, e1, _⟩ := x; exact ⟨_, e1⟩
  | set S n => obtain ⟨ob, es, ep, t, e1, _⟩ := x; exact ⟨_, e1⟩
  | _ => exact l.elim
theorem forget (I : Inv X pins σ H s) (S : Sub G H) : Inv X (pins ++ lpins H G s.heap) σ G s where
  ok := I.ok
  os := I.os
  bare := I.bare
  base := ⟨I.base.keep, I.base.slot, fun b o e n hx => S.none (I.base.free b o e n hx), I.base.there,
    fun b xs q => S.keep (I.base.tups b xs q) (fun z => z), fun b o u q => S.keep (I.base.frzs b o u q) (fun z => z),
    fun b ps q => by obtain ⟨m, e⟩ := I.base.tbls b ps q; exact ⟨m, S.keep e (fun z => z)⟩⟩
  loc := I.loc
  cell := I.cell
  free := S.none I.free
  freeC := fun x c e => S.none (I.freeC x c e)
  pin := fun p hp => by
    rcases List.mem_append.mp hp with hp | hp
    · obtain ⟨e, n, r⟩ := I.pin p (List.mem_append_left _ hp)
      exact ⟨e, S.none n, r⟩
    · rcases List.mem_append.mp hp with hp | hp
      · obtain ⟨e, n, r⟩ := I.pin p (List.mem_append_right _ hp)
        exact ⟨e, S.none n, r⟩
      · obtain ⟨⟨u, hu⟩, hg, he⟩ := of_lpins hp
        refine ⟨he, hg, fun z => ?_, fun z => ?_, loose_cell (I.hok p.1 u hu) (S.loose _ _ hu hg) he⟩
        · rw [z, I.free] at hu; cases hu
        · rw [fs_none I z] at hu; cases hu
  hok := fun a o e => (I.hok a o (S.same a o e)).stay (fun b u _ q => q) (fun b q => S.keep q (fun z => z)) (fun b xs q => S.keep q (fun z => z))
  len := I.len
theorem lost_of {τ : L2.St} (I : Inv X pins σ H s) (S : Sub G H) (J : Inv X (pins ++ lpins H G s.heap) τ G' s') : ∀ b o, H b = some o → G b = none → G' b = none := fun b o hb hg => by
  obtain ⟨ob, hob⟩ : ∃ ob, s.heap.get? b = some ob := loose_there (I.hok b o hb) (S.loose b o hb hg)
  exact (J.pin (b, ob) (List.mem_append_right _ (List.mem_append_right _ (mem_lpins hb hg hob)))).2.1
theorem remember {τ : L2.St} (I : Inv X pins σ H s) (S : Sub G H) (J : Inv X (pins ++ lpins H G s.heap) τ G' s') (ht : ∀ b xs, G b = some (.tup xs) → G' b = some (.tup xs)) :
    Inv X pins τ (mixH G H G') s' := by
  have lost : ∀ b o, H b = some o → G b = none → G' b = none ∧ ∀ ob, s.heap.get? b = some ob → s'.heap.get? b = some ob := fun b o hb hg => by
    obtain ⟨ob, hob⟩ : ∃ ob, s.heap.get? b = some ob := loose_there (I.hok b o hb) (S.loose b o hb hg)
    obtain ⟨e1, e2, _⟩ := J.pin (b, ob) (List.mem_append_right _ (List.mem_append_right _ (mem_lpins hb hg hob)))
    exact ⟨e2, fun ob' h' => by rw [hob] at h'; cases h'; exact e1⟩
  have up : ∀ b o, G' b = some o → mixH G H G' b = some o := fun b o e => by
    cases q : G b with
    | some u => rw [mix_held q]; exact e
    | none =>
      cases r : H b with
      | none => rw [mix_free r]; exact e
      | some u => rw [(lost b u r q).1] at e; cases e
  have nn : ∀ b, G' b = none → H b = none → mixH G H G' b = none := fun b e r => by rw [mix_free r]; exact e
  refine ⟨J.ok, J.os, J.bare, ⟨J.base.keep, J.base.slot, fun b o e n hx => nn b (J.base.free b o e n hx) (I.base.free b o e n hx), J.base.there,
    fun b xs q => up _ _ (J.base.tups b xs q), fun b o u q => up _ _ (J.base.frzs b o u q), fun b ps q => ?_⟩, J.loc, J.cell, nn _ J.free I.free, fun x c e => nn _ (J.freeC x c e) (I.freeC x c e), fun p hp => ?_, fun a o e => ?_, J.len⟩
  · obtain ⟨m, e⟩ := J.base.tbls b ps q
    exact ⟨m, up _ _ e⟩
  · have hp' : p ∈ X.pn ++ (pins ++ lpins H G s.heap) := (List.mem_append.mp hp).elim (fun z => List.mem_append_left _ z) fun z => List.mem_append_right _ (List.mem_append_left _ z)
    obtain ⟨e, n, r⟩ := J.pin p hp'
    exact ⟨e, nn _ n (I.pin p hp).2.1, r⟩
  · cases q : G a with
    | some u =>
      rw [mix_held q] at e
      exact (J.hok a o e).stay (fun b u _ q => q) (fun b q => up _ _ q) (fun b xs q => up _ _ q)
    | none =>
      cases r : H a with
      | none =>
        rw [mix_free r] at e
        exact (J.hok a o e).stay (fun b u _ q => q) (fun b q => up _ _ q) (fun b xs q => up _ _ q)
      | some u =>
        rw [mix_lost q r] at e
        cases e
        have k := (lost a o r q).2
        have x := I.hok a o r
        have l := S.loose a o r q
        cases o with
        | lst xs => obtain ⟨z, its, n, rv, e1⟩ := x; exact ⟨z, its, n, rv, k _ e1⟩
        | dK kvs => obtain ⟨z, y, vs, rv, ob, es, ep, e1, c⟩ := x; exact ⟨z, y, vs, rv, ob, es, ep, k _ e1, c⟩
        | dT kvs =>
          obtain ⟨z, y, xs, rv, ob, es, ep, e1, c⟩ := x
          exact ⟨z, y, xs, Paired.mapP rv fun p q z => ⟨z.1, up _ _ (ht _ _ (S.keep z.2.1 (fun z => z))), z.2.2⟩, ob, es, ep, k _ e1, c⟩
        | set T n => obtain ⟨ob, es, ep, t, e1, c⟩ := x; exact ⟨ob, es, ep, t, k _ e1, c⟩
        | _ => exact l.elim
end

section
variable {X : Cx} {CX : CXT} {k : Nat} {f C : Addr} {fd : FuncData} {ps : List Str} {sp : Sp} {dvs : List V} {ds : List Value} {E : XK} {x m : Str} {p pos apos : Pos} {e o : Expr} {es : List Expr} {ta : TE} {t : TA}
theorem run_fnF {pins : List (Addr × Obj)} {σ : L2.St} {H G : Hp} {s : Shared} {Q : VK} {us : List Value} {vs : List V} (F : FnOk X.prog X.w X.K X.mg X.base CX k f fd ps sp) (hr : Room k X.A) (hb : Binds X.K fd ps ds) (hd : Vals dvs ds) (hx : Passes CX X E)
    (I : Inv X pins σ H s) (r : Vals vs us) (S : Sub G H) (h : sp (vs ++ dvs) G (fun v G' => (∀ b xs, G b = some (.tup xs) → G' b = some (.tup xs)) ∧ ((∀ b o, H b = some o → G b = none → G' b = none) → Q v (mixH G H G'))) E) :
    wpAny (model X.prog X.w) X.A (call (.ref f) us) (EP X pins σ Q) X.xe s := by
  refine thn (run_fn F hr hb hd hx (forget I S) r h) fun u s' ⟨v, G', I', rv, ht, q⟩ => ⟨v, mixH G H G', remember I S I' ht, rv, q (lost_of I S I')⟩
/-- f(..) called over a part of the heap -/
def tCallF (sp : Sp) (dvs : List V) (E : XK) (t : TA) : TE := fun σ H Q => t σ H fun vs H1 => ∃ G, Sub G H1 ∧ sp (vs ++ dvs) G (fun v G' => (∀ b xs, G b = some (.tup xs) → G' b = some (.tup xs)) ∧ ((∀ b o, H1 b = some o → G b = none → G' b = none) → Q v (mixH G H1 G'))) E
theorem pe_callF (F : FnOk X.prog X.w X.K X.mg X.base CX k f fd ps sp) (hr : Room k X.A) (hg : Gl X x) (hm : X.mg x = some (.ref f)) (hk : PySem.W.keepIn X.K (.ref f) = true) (hb : Binds X.K fd ps ds) (hd : Vals dvs ds) (hx : Passes CX X E)
    (ha : PA X (e :: es) t) (hdb : (x == ("__debug__" : Str)) = false := by decide) (he : starEach (e :: es) X.env = (false, eval e X.env) :: starEach es X.env := by rfl) (hpl : (backTo pos (starEach es X.env)).any (·.1) = false := by rfl) :
    PE X (.Call (.Name x p) (e :: es) [] pos) (tCallF sp dvs E t) := by
  refine ⟨fun pins s σ H Q I h => ?_⟩
  refine wpAny_Call_Name_kw (ld_glob I hg hm ?_ hdb)
  refine PySem.W.callWith_K (h₀ := X.base) I.ok.mod.kin hk (thn (ha.run pos pins s σ H _ I h) fun us s1 ⟨vs, H1, I1, r, G, S, q⟩ => ⟨I1.kIn, ?_⟩) he hpl
  exact run_fnF F hr hb hd hx I1 r S q
end

/-! ### any expression, test, target, over a part of the heap -/
def Back (G H : Hp) (Q : Hp → Prop) : Hp → Prop := fun G' => (∀ b xs, G b = some (.tup xs) → G' b = some (.tup xs)) ∧ ((∀ b o, H b = some o → G b = none → G' b = none) → Q (mixH G H G'))
def tFr (t : TE) : TE := fun σ H Q => ∃ G, Sub G H ∧ t σ G fun v => Back G H (Q v)
def tFrT (t : TT) : TT := fun σ H Q => ∃ G, Sub G H ∧ t σ G fun v => Back G H (Q v)
def gFr (t : TG) : TG := fun x σ H Q => ∃ G, Sub G H ∧ t x σ G fun σ' => Back G H (Q σ')
def iFr (t : TI) : TI := fun σ H R => ∃ G, Sub G H ∧ t σ G fun J => Back G H (R J)
section
variable {X : Cx} {e : Expr}
theorem pe_fr {t : TE} (h : PE X e t) : PE X e (tFr t) := ⟨fun pins s σ H Q I ⟨G, S, q⟩ =>
  thn (h.run _ s σ G _ (forget I S) q) fun u s' ⟨v, G', J, r, ht, q⟩ => ⟨v, _, remember I S J ht, r, q (lost_of I S J)⟩⟩
theorem pts_fr {es : List Expr} {t : TT} (h : PTs X es t) : PTs X es (tFrT t) := ⟨fun pins s σ H Q I ⟨G, S, q⟩ =>
  thn (h.run _ s σ G _ (forget I S) q) fun u s' ⟨G', J, ht, q⟩ => ⟨_, remember I S J ht, q (lost_of I S J)⟩⟩
theorem pg_fr {t : TG} (h : PG X e t) : PG X e (gFr t) := ⟨fun pins s σ H v u Q I r ⟨G, S, q⟩ =>
  thn (h.run _ s σ G v u _ (forget I S) r q) fun _ s' ⟨σ', G', J, ht, q⟩ => ⟨σ', _, remember I S J ht, q (lost_of I S J)⟩⟩
end

/-! ### growing heaps: all but the tables of code objects stay, and these are tables still -/
class TabsC where
  T : List (Addr × Str)
  C : List (Addr × Addr)
def NT : HO → Prop
  | .tbl _ => False
  | _ => True
theorem Loose.nt {o : HO} (h : Loose o) : NT o := by
  cases o <;> first | trivial | exact h
section
variable [τ : TabsC]
structure SameT (F F' : Hp) : Prop where
  old : ∀ b o, F b = some o → NT o → F' b = some o
  tab : LamX.Tabs τ.T F → LamX.Tabs τ.T F'
  stay : ∀ b o, F b = some o → ∃ o', F' b = some o'
theorem SameT.refl (F : Hp) : SameT F F := ⟨fun _ _ h _ => h, fun t => t, fun _ o h => ⟨o, h⟩⟩
theorem SameT.trans {F G H : Hp} (a : SameT F G) (b : SameT G H) : SameT F H := ⟨fun c o h n => b.old c o (a.old c o h n) n, fun t => b.tab (a.tab t), fun c o h => let ⟨o', h'⟩ := a.stay c o h; b.stay c o' h'⟩
theorem _root_.L2.Same.t {F F' : Hp} (h : Same F F') : SameT F F' := ⟨fun b o e _ => h b o e, fun t => t.ext h, fun b o e => ⟨o, h b o e⟩⟩
theorem SameT.empty (B : Hp) : SameT (fun _ => none) B := ⟨(fun _ _ q => nomatch q), (fun t p hp => by
  obtain ⟨ps, h, _⟩ := t p hp
  cases h), (fun _ _ q => nomatch q)⟩
theorem SameT.seq {K : PySem.W.Frag} {F F' : Hp} {a : Addr} {xs : List V} (e : SameT F F') (h : SqL K F a xs) : SqL K F' a xs := by
  rcases h with (h | ⟨o, h⟩) | h
  · exact .inl (.inl (e.old _ _ h trivial))
  · exact .inl (.inr ⟨o, e.old _ _ h trivial⟩)
  · exact .inr h
end
end Fu

set_option maxHeartbeats 4000000
namespace Fu
open PySem PySem.Spec PyProof.Rows L2
variable [TabsC]

abbrev D := PyData

/-- a dict stands at a: what it holds is not told -/
def dictO (a : Addr) : HO := .ext (PySem.W.KitAt a "dict")
/-- a dict whose keys are tuples of ints, its values, too, as data -/
def tDict (kvs : List (List Int × List Int)) : PyData := .dict ((.str "T", .none) :: kvs.map fun p => (.tuple (p.1.map .int), .tuple (p.2.map .int)))
def RowT (H : Hp) (p : List Key × V) (q : List Int × List Int) : Prop := p.1 = q.1.map Sum.inl ∧ q.2.length ≤ sizeLine ∧ ∃ b, p.2 = .ref b ∧ H b = some (.tup (q.2.map V.int))
/-! ### a value, down to what is within, in a heap that stays -/
mutual
inductive Rp (K : PySem.W.Frag) (H : Hp) : V → PyData → Prop
  | non : Rp K H .non .none
  | bl (b : Bool) : Rp K H (.bl b) (.bool b)
  | int (i : Int) : Rp K H (.int i) (.int i)
  | str {x : Str} : x.length ≤ sizeLine → Rp K H (.str x) (.str x)
  | lst {a : Addr} {xs : List V} {ds : List PyData} : H a = some (.lst xs) → Rps K H xs ds → ds.length ≤ sizeLine → Rp K H (.ref a) (.list ds)
  | tup {a : Addr} {xs : List V} {ds : List PyData} : H a = some (.tup xs) → Rps K H xs ds → ds.length ≤ sizeLine → Rp K H (.ref a) (.tuple ds)
  | dct {a : Addr} {kvs : List (PyData × PyData)} : ((∃ es, H a = some (.dK es)) ∨ (∃ es, H a = some (.dT es)) ∨ H a = some (dictO a)) → (kvs = [] → H a = some (.dK [])) → (kvs = [] ∨ kvs = [(.none, .none)]) → Rp K H (.ref a) (.dict kvs)
  | dcT {a : Addr} {vs : List (List Key × V)} {kvs : List (List Int × List Int)} : H a = some (.dT vs) → Paired (RowT H) vs kvs → Rp K H (.ref a) (tDict kvs)
inductive Rps (K : PySem.W.Frag) (H : Hp) : List V → List PyData → Prop
  | nil : Rps K H [] []
  | cons {v : V} {vs : List V} {d : PyData} {ds : List PyData} : Rp K H v d → Rps K H vs ds → Rps K H (v :: vs) (d :: ds)
end
section
variable {K : PySem.W.Frag} {H H' : Hp}
theorem sqT_same {a : Addr} {xs : List V} (e : SameT H H') (h : SqT K H a xs) : SqT K H' a xs := by
  rcases h with (h | ⟨o, h⟩) | h
  · exact .inl (.inl (e.old _ _ h trivial))
  · exact .inl (.inr ⟨o, e.old _ _ h trivial⟩)
  · exact .inr h
theorem dcT_mono (e : SameT H H') : ∀ {vs : List (List Key × V)} {kvs : List (List Int × List Int)}, Paired (RowT H) vs kvs → Paired (RowT H') vs kvs
  | _, _, .nil => .nil
  | _, _, .cons ⟨h1, h0, b, h2, h3⟩ t => .cons ⟨h1, h0, b, h2, e.old _ _ h3 trivial⟩ (dcT_mono e t)
mutual
theorem Rp.mono (e : SameT H H') : ∀ (d : PyData) (v : V), Rp K H v d → Rp K H' v d
  | .none, _, h => by cases h; exact .non
  | .bool b, _, h => by cases h; exact .bl b
  | .int i, _, h => by cases h; exact .int i
  | .str x, _, h => by
    cases h with
    | str hz => exact .str hz
  | .list ds, _, h => by
    cases h with
    | lst hs ha hz => exact .lst (e.old _ _ hs trivial) (Rps.mono e ds _ ha) hz
  | .tuple ds, _, h => by
    cases h with
    | tup hs ha hz => exact .tup (e.old _ _ hs trivial) (Rps.mono e ds _ ha) hz
  | .dict kvs, _, h => by
    cases h with
    | dcT h1 h2 => exact .dcT (e.old _ _ h1 trivial) (dcT_mono e h2)
    | dct hd h0 h00 =>
      refine .dct ?_ (fun z => e.old _ _ (h0 z) trivial) h00
      rcases hd with ⟨es, hd⟩ | ⟨es, hd⟩ | hd
      · exact .inl ⟨es, e.old _ _ hd trivial⟩
      · exact .inr (.inl ⟨es, e.old _ _ hd trivial⟩)
      · exact .inr (.inr (e.old _ _ hd trivial))
theorem Rps.mono (e : SameT H H') : ∀ (ds : List PyData) (vs : List V), Rps K H vs ds → Rps K H' vs ds
  | [], _, h => by cases h; exact .nil
  | d :: ds, _, h => by
    cases h with
    | cons h1 h2 => exact .cons (Rp.mono e d _ h1) (Rps.mono e ds _ h2)
end
mutual
theorem Rp.dp : ∀ (d : PyData) (v : V), d.canLay0 = true → Rp K H v d → Dp K H v d
  | .none, _, _, h => by cases h; exact .non
  | .bool b, _, _, h => by cases h; exact .bl b
  | .int i, _, _, h => by cases h; exact .int i
  | .str x, _, _, h => by cases h; exact .str x
  | .list ds, _, c, h => by
    cases h with
    | lst hs ha hz => exact .lst (SqL.of hs) (Rps.dp ds _ (by simpa [PyData.canLay0] using c) ha)
  | .tuple ds, _, c, h => by
    cases h with
    | tup hs ha hz => exact .tup (.inl (.inl hs)) (Rps.dp ds _ (by simpa [PyData.canLay0] using c) ha)
  | .dict kvs, _, c, _ => by simp [PyData.canLay0] at c
theorem Rps.dp : ∀ (ds : List PyData) (vs : List V), PyData.canLayAll0 ds = true → Rps K H vs ds → DpAll K H vs ds
  | [], _, _, h => by cases h; exact .nil
  | d :: ds, _, c, h => by
    have c' : d.canLay0 = true ∧ PyData.canLayAll0 ds = true := by simpa [PyData.canLayAll0] using c
    cases h with
    | cons h1 h2 => exact .cons (Rp.dp d _ c'.1 h1) (Rps.dp ds _ c'.2 h2)
end
theorem Rps.length : ∀ {ds : List PyData} {vs : List V}, Rps K H vs ds → vs.length = ds.length
  | [], _, h => by cases h; rfl
  | d :: ds, _, h => by
    cases h with
    | cons _ h2 => rw [List.length_cons, List.length_cons, Rps.length h2]
theorem Rps.get : ∀ {ds : List PyData} {vs : List V} {i : Nat} {d : PyData}, Rps K H vs ds → ds[i]? = some d → ∃ v, vs[i]? = some v ∧ Rp K H v d
  | [], _, _, _, _, e => by simp at e
  | _ :: _, _, 0, _, h, e => by
    cases h with
    | cons h1 h2 =>
      simp at e; subst e
      exact ⟨_, rfl, h1⟩
  | _ :: ds, _, i + 1, _, h, e => by
    cases h with
    | cons h1 h2 =>
      obtain ⟨v, e1, r⟩ := Rps.get (i := i) h2 (by simpa using e)
      exact ⟨v, by simpa using e1, r⟩
theorem Rps.append : ∀ {ds es : List PyData} {vs us : List V}, Rps K H vs ds → Rps K H us es → Rps K H (vs ++ us) (ds ++ es)
  | [], _, _, _, h, g => by cases h; exact g
  | _ :: _, _, _, _, h, g => by
    cases h with
    | cons h1 h2 => exact .cons h1 (h2.append g)
theorem Rps.take : ∀ {ds : List PyData} {vs : List V} (n : Nat), Rps K H vs ds → Rps K H (vs.take n) (ds.take n)
  | _, _, 0, _ => .nil
  | [], _, n + 1, h => by cases h; exact .nil
  | _ :: _, _, n + 1, h => by
    cases h with
    | cons h1 h2 => exact .cons h1 (h2.take n)
theorem Rps.drop : ∀ {ds : List PyData} {vs : List V} (n : Nat), Rps K H vs ds → Rps K H (vs.drop n) (ds.drop n)
  | _, _, 0, h => h
  | [], _, n + 1, h => by cases h; exact .nil
  | _ :: _, _, n + 1, h => by
    cases h with
    | cons h1 h2 => exact h2.drop n
theorem Rps.set : ∀ {ds : List PyData} {vs : List V} {v : V} {d : PyData} (i : Nat), Rp K H v d → Rps K H vs ds → Rps K H (vs.set i v) (ds.set i d)
  | [], _, _, _, _, _, h => by cases h; exact .nil
  | _ :: _, _, _, _, 0, r, h => by
    cases h with
    | cons h1 h2 => exact .cons r h2
  | _ :: _, _, _, _, i + 1, r, h => by
    cases h with
    | cons h1 h2 => exact .cons h1 (Rps.set i r h2)
theorem Rps.erase : ∀ {ds : List PyData} {vs : List V} (i : Nat), Rps K H vs ds → Rps K H (vs.eraseIdx i) (ds.eraseIdx i)
  | [], _, _, h => by cases h; exact .nil
  | _ :: _, _, 0, h => by
    cases h with
    | cons h1 h2 => exact h2
  | _ :: _, _, i + 1, h => by
    cases h with
    | cons h1 h2 => exact .cons h1 (Rps.erase i h2)
theorem Rps.reverse {ds : List PyData} {vs : List V} (h : Rps K H vs ds) : Rps K H vs.reverse ds.reverse := by
  induction ds generalizing vs with
  | nil => cases h; exact .nil
  | cons d ds ih =>
    cases h with
    | cons h1 h2 =>
      rw [List.reverse_cons, List.reverse_cons]
      exact (ih h2).append (.cons h1 .nil)
theorem Rps.rep {ds : List PyData} {vs : List V} (h : Rps K H vs ds) : ∀ n : Nat, Rps K H (List.replicate n vs).flatten (List.replicate n ds).flatten
  | 0 => .nil
  | n + 1 => by
    rw [List.replicate_succ, List.replicate_succ, List.flatten_cons, List.flatten_cons]
    exact h.append (h.rep n)
theorem Rps.ints : ∀ ns : List Int, Rps K H (ns.map V.int) (ns.map PyData.int)
  | [] => .nil
  | n :: ns => .cons (.int n) (Rps.ints ns)
end

/-! ### the state: slots, and things that are still written (cells) -/
/-- an exception object of the class cls stands at a -/
def XO (cls : Value) (a : Addr) : HO := .ext fun h => ∃ (o : Obj) (fs : Array Value), h.get? a = some o ∧ Zc cls none o ∧ o.data = .fields fs
inductive R where
  | dat (d : PyData)
  | own (j : Nat)
  | scr (ns : List Int)
  | tup (rs : List R)
  | exc (c : Str)
inductive Cell where
  | lst (xs : List PyData)
  | lR (xs : List R)
  | dR (kvs : List (Key × R))
  | tR (kvs : List (List Key × R))
structure Sx where
  sl : List (Option R)
  os : List (Option Cell)
abbrev M (α : Type) := Sx → Option (α × Sx)

mutual
/-- a value of the state: data, a cell's place, the script, a tuple of such -/
inductive Rr (K : PySem.W.Frag) (A : List Addr) (F : Hp) : V → R → Prop
  | dat {v : V} {d : PyData} : Rp K F v d → Rr K A F v (.dat d)
  | own {j : Nat} {a : Addr} : A[j]? = some a → Rr K A F (.ref a) (.own j)
  | scr {a : Addr} {ns : List Int} : ns.length ≤ 63 → SqL K F a (ns.map V.int) → Rr K A F (.ref a) (.scr ns)
  | tup {a : Addr} {vs : List V} {rs : List R} : F a = some (.tup vs) → Rrs K A F vs rs → rs.length ≤ sizeLine → Rr K A F (.ref a) (.tup rs)
  | exc {a D : Addr} {c : Str} : PySem.W.nsIn K mainGlobals c = some (some (.ref D)) → F a = some (XO (.ref D) a) → Rr K A F (.ref a) (.exc c)
inductive Rrs (K : PySem.W.Frag) (A : List Addr) (F : Hp) : List V → List R → Prop
  | nil : Rrs K A F [] []
  | cons {v : V} {vs : List V} {r : R} {rs : List R} : Rr K A F v r → Rrs K A F vs rs → Rrs K A F (v :: vs) (r :: rs)
end
theorem pre_at {α : Type} {A B : List α} {j : Nat} {a : α} (p : A <+: B) (h : A[j]? = some a) : B[j]? = some a := by
  obtain ⟨C, rfl⟩ := p
  rw [List.getElem?_append_left (List.getElem?_eq_some_iff.mp h).1]; exact h
section
variable {K : PySem.W.Frag} {A A' : List Addr} {F F' : Hp}
mutual
theorem Rr.mono (p : A <+: A') (e : SameT F F') : ∀ (r : R) (v : V), Rr K A F v r → Rr K A' F' v r
  | .dat d, _, h => by
    cases h with
    | dat h => exact .dat (Rp.mono e d _ h)
  | .own j, _, h => by
    cases h with
    | own h => exact .own (pre_at p h)
  | .scr ns, _, h => by
    cases h with
    | scr z h => exact .scr z (e.seq h)
  | .tup rs, _, h => by
    cases h with
    | tup s h z => exact .tup (e.old _ _ s trivial) (Rrs.mono p e rs _ h) z
  | .exc c, _, h => by
    cases h with
    | exc h1 h2 => exact .exc h1 (e.old _ _ h2 trivial)
theorem Rrs.mono (p : A <+: A') (e : SameT F F') : ∀ (rs : List R) (vs : List V), Rrs K A F vs rs → Rrs K A' F' vs rs
  | [], _, h => by cases h; exact .nil
  | r :: rs, _, h => by
    cases h with
    | cons h1 h2 => exact .cons (Rr.mono p e r _ h1) (Rrs.mono p e rs _ h2)
end
theorem Rrs.length : ∀ {rs : List R} {vs : List V}, Rrs K A F vs rs → vs.length = rs.length
  | [], _, h => by cases h; rfl
  | _ :: rs, _, h => by
    cases h with
    | cons _ h2 => rw [List.length_cons, List.length_cons, Rrs.length h2]
theorem Rrs.get : ∀ {rs : List R} {vs : List V} {i : Nat} {r : R}, Rrs K A F vs rs → rs[i]? = some r → ∃ v, vs[i]? = some v ∧ Rr K A F v r
  | [], _, _, _, _, e => by simp at e
  | _ :: _, _, 0, _, h, e => by
    cases h with
    | cons h1 h2 =>
      simp at e; subst e
      exact ⟨_, rfl, h1⟩
  | _ :: rs, _, i + 1, _, h, e => by
    cases h with
    | cons h1 h2 =>
      obtain ⟨v, e1, r⟩ := Rrs.get (i := i) h2 (by simpa using e)
      exact ⟨v, by simpa using e1, r⟩
theorem Rrs.append : ∀ {rs ss : List R} {vs us : List V}, Rrs K A F vs rs → Rrs K A F us ss → Rrs K A F (vs ++ us) (rs ++ ss)
  | [], _, _, _, h, g => by cases h; exact g
  | _ :: _, _, _, _, h, g => by
    cases h with
    | cons h1 h2 => exact .cons h1 (h2.append g)
theorem Rrs.take : ∀ {rs : List R} {vs : List V} (n : Nat), Rrs K A F vs rs → Rrs K A F (vs.take n) (rs.take n)
  | _, _, 0, _ => .nil
  | [], _, n + 1, h => by cases h; exact .nil
  | _ :: _, _, n + 1, h => by
    cases h with
    | cons h1 h2 => exact .cons h1 (h2.take n)
theorem Rrs.drop : ∀ {rs : List R} {vs : List V} (n : Nat), Rrs K A F vs rs → Rrs K A F (vs.drop n) (rs.drop n)
  | _, _, 0, h => h
  | [], _, n + 1, h => by cases h; exact .nil
  | _ :: _, _, n + 1, h => by
    cases h with
    | cons h1 h2 => exact h2.drop n
theorem Rrs.set : ∀ {rs : List R} {vs : List V} {v : V} {r : R} (i : Nat), Rr K A F v r → Rrs K A F vs rs → Rrs K A F (vs.set i v) (rs.set i r)
  | [], _, _, _, _, _, h => by cases h; exact .nil
  | _ :: _, _, _, _, 0, r, h => by
    cases h with
    | cons h1 h2 => exact .cons r h2
  | _ :: _, _, _, _, i + 1, r, h => by
    cases h with
    | cons h1 h2 => exact .cons h1 (Rrs.set i r h2)
theorem Rrs.erase : ∀ {rs : List R} {vs : List V} (i : Nat), Rrs K A F vs rs → Rrs K A F (vs.eraseIdx i) (rs.eraseIdx i)
  | [], _, _, h => by cases h; exact .nil
  | _ :: _, _, 0, h => by
    cases h with
    | cons h1 h2 => exact h2
  | _ :: _, _, i + 1, h => by
    cases h with
    | cons h1 h2 => exact .cons h1 (Rrs.erase i h2)
end

abbrev PairR (K : PySem.W.Frag) (A : List Addr) (F : Hp) {κ : Type} (vs : List (κ × V)) (ks : List (κ × R)) : Prop := Paired (fun p q => p.1 = q.1 ∧ Rr K A F p.2 q.2) vs ks
def CellOk (K : PySem.W.Frag) (A : List Addr) (F H : Hp) (a : Addr) : Cell → Prop
  | .lst ds => ∃ vs, H a = some (.lst vs) ∧ Rps K F vs ds ∧ ds.length ≤ sizeLine
  | .lR rs => ∃ vs, H a = some (.lst vs) ∧ Rrs K A F vs rs ∧ rs.length ≤ sizeLine
  | .dR kvs => ∃ vs : List (Key × V), H a = some (.dK vs) ∧ PairR K A F vs kvs
  | .tR kvs => ∃ vs : List (List Key × V), H a = some (.dT vs) ∧ PairR K A F vs kvs
structure Ok (K : PySem.W.Frag) (A : List Addr) (F H : Hp) (S : Sx) (σ : L2.St) : Prop where
  sub : Sub F H
  len : S.sl.length = σ.length
  alen : S.os.length = A.length
  nd : A.Nodup
  rslot : ∀ (i : Nat) r, S.sl[i]? = some (some r) → ∃ v, σ[i]? = some (some v) ∧ Rr K A F v r
  cell : ∀ (j : Nat) c, S.os[j]? = some (some c) → ∃ a, A[j]? = some a ∧ F a = none ∧ CellOk K A F H a c
  trk : ∀ a ∈ A, ∃ o, H a = some o ∧ Loose o
  tab : LamX.Tabs TabsC.T F
section
variable {K : PySem.W.Frag} {A : List Addr} {F H : Hp} {S : Sx} {σ : L2.St}
theorem Ok.slot (k : Ok K A F H S σ) (i : Nat) (d : PyData) (h : S.sl[i]? = some (some (.dat d))) : ∃ v, σ[i]? = some (some v) ∧ Rp K F v d := by
  obtain ⟨v, e, r⟩ := k.rslot i _ h
  cases r with
  | dat r => exact ⟨v, e, r⟩
theorem Ok.oslot (k : Ok K A F H S σ) (i j : Nat) (h : S.sl[i]? = some (some (.own j))) : ∃ a, A[j]? = some a ∧ σ[i]? = some (some (.ref a)) := by
  obtain ⟨v, e, r⟩ := k.rslot i _ h
  cases r with
  | own r => exact ⟨_, r, e⟩
theorem Ok.sslot (k : Ok K A F H S σ) (i : Nat) (ns : List Int) (h : S.sl[i]? = some (some (.scr ns))) : ns.length ≤ 63 ∧ ∃ a, σ[i]? = some (some (.ref a)) ∧ SqL K F a (ns.map V.int) := by
  obtain ⟨v, e, r⟩ := k.rslot i _ h
  cases r with
  | scr z r => exact ⟨z, _, e, r⟩
end

theorem paired_mono {κ : Type} {K : PySem.W.Frag} {A A' : List Addr} {F F' : Hp} (p : A <+: A') (e : SameT F F') {vs : List (κ × V)} {ks : List (κ × R)} (h : PairR K A F vs ks) : PairR K A' F' vs ks :=
  Paired.mapP h fun _ _ z => ⟨z.1, z.2.mono p e _ _⟩
/-- the cell at a stands over a greater heap -/
theorem CellOk.mono {K : PySem.W.Frag} {A A' : List Addr} {F F' H H' : Hp} {a : Addr} {c : Cell} (p : A <+: A') (e : SameT F F') (ha : ∀ o, H a = some o → H' a = some o) (h : CellOk K A F H a c) : CellOk K A' F' H' a c := by
  cases c with
  | lst ds => obtain ⟨vs, h1, h2, hz⟩ := h; exact ⟨vs, ha _ h1, Rps.mono e _ _ h2, hz⟩
  | lR ds => obtain ⟨vs, h1, h2, hz⟩ := h; exact ⟨vs, ha _ h1, Rrs.mono p e _ _ h2, hz⟩
  | dR ds => obtain ⟨vs, h1, h2⟩ := h; exact ⟨vs, ha _ h1, paired_mono p e h2⟩
  | tR ds => obtain ⟨vs, h1, h2⟩ := h; exact ⟨vs, ha _ h1, paired_mono p e h2⟩

theorem same_upd {H : Hp} {p : Addr} {o : HO} (h : H p = none) : SameT H (upd H p o) := L2.Same.t fun b x e => by
  rw [upd_ne (ne_of_none e h)]
  exact e
section
variable {K : PySem.W.Frag} {A : List Addr} {F F' H H' : Hp} {S : Sx} {σ : L2.St}
/-- both heaps grow -/
theorem Ok.grow (k : Ok K A F H S σ) (sub : Sub F' H') (e : SameT F F') (eh : ∀ a ∈ A, ∀ o, H a = some o → H' a = some o) (hf : ∀ a ∈ A, F a = none → F' a = none) : Ok K A F' H' S σ where
  sub := sub
  len := k.len
  alen := k.alen
  nd := k.nd
  rslot := fun i r h => by obtain ⟨v, e1, q⟩ := k.rslot i r h; exact ⟨v, e1, q.mono (List.prefix_refl _) e _ _⟩
  cell := fun j c h => by
    obtain ⟨a, e1, f, c⟩ := k.cell j c h
    have hm : a ∈ A := List.mem_of_getElem? e1
    exact ⟨a, e1, hf a hm f, c.mono (List.prefix_refl _) e (eh a hm)⟩
  trk := fun a h => by obtain ⟨o, q, l⟩ := k.trk a h; exact ⟨o, eh a h o q, l⟩
  tab := e.tab k.tab
/-- a new object, known for good -/
theorem Ok.laid (k : Ok K A F H S σ) {p : Addr} {o : HO} (hp : H p = none) : Ok K A (upd F p o) (upd H p o) S σ := by
  have fp : F p = none := k.sub.none hp
  refine k.grow ⟨fun b u q => ?_, fun b u q n => ?_⟩ (same_upd fp) (fun a ha u q => by rw [upd_ne (ne_of_none q hp)]; exact q) fun a ha q => ?_
  · by_cases hb : b = p
    · subst hb; rw [upd_same] at q ⊢; exact q
    · rw [upd_ne hb] at q ⊢; exact k.sub.same b u q
  · by_cases hb : b = p
    · subst hb; rw [upd_same] at n; cases n
    · rw [upd_ne hb] at q n; exact k.sub.loose b u q n
  · obtain ⟨u, hu, _⟩ := k.trk a ha
    rw [upd_ne (ne_of_none hu hp)]; exact q
theorem sub_cell {G H : Hp} (s : Sub G H) {a : Addr} {o : HO} (g : G a = none) (l : Loose o) : Sub G (upd H a o) := ⟨fun b u q => by
    rw [upd_ne (ne_of_none q g)]; exact s.same b u q, fun b u q n => by
    by_cases hb : b = a
    · subst hb; rw [upd_same] at q; cases q; exact l
    · rw [upd_ne hb] at q; exact s.loose b u q n⟩
/-- a new cell -/
theorem Ok.cellNew (k : Ok K A F H S σ) {p : Addr} {o : HO} {c : Cell} (hp : H p = none) (l : Loose o) (hc : CellOk K (A ++ [p]) F (upd H p o) p c) : Ok K (A ++ [p]) F (upd H p o) { S with os := S.os ++ [some c] } σ := by
  have fp : F p = none := k.sub.none hp
  have np : p ∉ A := fun z => by obtain ⟨u, hu, _⟩ := k.trk p z; rw [hp] at hu; cases hu
  have pp : A <+: A ++ [p] := List.prefix_append _ _
  refine ⟨sub_cell k.sub fp l, k.len, by simp [k.alen], List.nodup_append.mpr ⟨k.nd, by simp, fun a ha b hb => by simp at hb; subst hb; intro z; subst z; exact np ha⟩, fun i r h => ?_, fun j c' h => ?_, fun a h => ?_, k.tab⟩
  · obtain ⟨v, e1, q⟩ := k.rslot i r h
    exact ⟨v, e1, q.mono pp (SameT.refl F) _ _⟩
  · by_cases hj : j < S.os.length
    · have h' : S.os[j]? = some (some c') := by
        have := h
        simp only at this
        rw [List.getElem?_append_left hj] at this; exact this
      obtain ⟨a, e1, f, q⟩ := k.cell j c' h'
      exact ⟨a, pre_at pp e1, f, q.mono pp (SameT.refl F) fun u hu => by rw [upd_ne (ne_of_none hu hp)]; exact hu⟩
    · have e : j = S.os.length := by
        have := (List.getElem?_eq_some_iff.mp h).1
        simp at this
        omega
      subst e
      have h' : some c = some c' := by simpa using h
      cases h'
      exact ⟨p, by rw [k.alen]; simp, fp, hc⟩
  · rcases List.mem_append.mp h with h | h
    · obtain ⟨u, hu, lu⟩ := k.trk a h
      exact ⟨u, by rw [upd_ne (ne_of_none hu hp)]; exact hu, lu⟩
    · simp at h; subst h; exact ⟨o, upd_same, l⟩
theorem idx_nodup {α : Type} {A : List α} (nd : A.Nodup) {i j : Nat} {a : α} (h1 : A[i]? = some a) (h2 : A[j]? = some a) : i = j := by
  obtain ⟨l1, e1⟩ := List.getElem?_eq_some_iff.mp h1
  obtain ⟨l2, e2⟩ := List.getElem?_eq_some_iff.mp h2
  exact (List.getElem_inj nd).mp (e1.trans e2.symm)
/-- a cell written -/
theorem Ok.cellSet (k : Ok K A F H S σ) {j : Nat} {a : Addr} {o : HO} {c c' : Cell} (hj : S.os[j]? = some (some c)) (ha : A[j]? = some a) (l : Loose o) (hc : CellOk K A F (upd H a o) a c') :
    Ok K A F (upd H a o) { S with os := S.os.set j (some c') } σ := by
  obtain ⟨a', e1, fa, _⟩ := k.cell j c hj
  rw [ha] at e1; cases e1
  refine ⟨sub_cell k.sub fa l, k.len, by simp [k.alen], k.nd, k.rslot, fun i d h => ?_, fun b h => ?_, k.tab⟩
  · by_cases hi : j = i
    · subst hi
      have hlt := (List.getElem?_eq_some_iff.mp hj).1
      rw [List.getElem?_set_self hlt] at h
      cases h
      exact ⟨a, ha, fa, hc⟩
    · rw [List.getElem?_set_ne hi] at h
      obtain ⟨b, e1, f, q⟩ := k.cell i d h
      have hb : b ≠ a := fun z => hi (idx_nodup k.nd ha (z ▸ e1))
      exact ⟨b, e1, f, q.mono (List.prefix_refl _) (SameT.refl F) fun u hu => by rw [upd_ne hb]; exact hu⟩
  · by_cases hb : b = a
    · exact ⟨o, by rw [hb, upd_same], l⟩
    · obtain ⟨u, hu, lu⟩ := k.trk b h
      exact ⟨u, by rw [upd_ne hb]; exact hu, lu⟩
/-- a cell is written no more: its object is known for good -/
theorem Ok.sealO (k : Ok K A F H S σ) {j : Nat} {a : Addr} {o : HO} {c : Cell} (hj : S.os[j]? = some (some c)) (ha : A[j]? = some a) (ho : H a = some o) :
    SameT F (upd F a o) ∧ Ok K A (upd F a o) H { S with os := S.os.set j none } σ := by
  obtain ⟨a', e1, fa, _⟩ := k.cell j c hj
  rw [ha] at e1; cases e1
  have sm : SameT F (upd F a o) := same_upd fa
  refine ⟨sm, ⟨⟨fun b u q => ?_, fun b u q n => ?_⟩, k.len, by simp [k.alen], k.nd, fun i r h => ?_, fun i d h => ?_, k.trk, sm.tab k.tab⟩⟩
  · by_cases hb : b = a
    · subst hb; rw [upd_same] at q; cases q; exact ho
    · rw [upd_ne hb] at q; exact k.sub.same b u q
  · by_cases hb : b = a
    · subst hb; rw [upd_same] at n; cases n
    · rw [upd_ne hb] at n; exact k.sub.loose b u q n
  · obtain ⟨v, e1, q⟩ := k.rslot i r h
    exact ⟨v, e1, q.mono (List.prefix_refl _) sm _ _⟩
  · by_cases hi : j = i
    · subst hi
      have hlt := (List.getElem?_eq_some_iff.mp hj).1
      rw [List.getElem?_set_self hlt] at h
      cases h
    · rw [List.getElem?_set_ne hi] at h
      obtain ⟨b, e1, f, q⟩ := k.cell i d h
      have hb : b ≠ a := fun z => hi (idx_nodup k.nd ha (z ▸ e1))
      exact ⟨b, e1, by rw [upd_ne hb]; exact f, q.mono (List.prefix_refl _) sm fun u hu => hu⟩
/-- .. a list of data -/
theorem Ok.seal (k : Ok K A F H S σ) {j : Nat} {ds : List PyData} (hj : S.os[j]? = some (some (.lst ds))) :
    ∃ a F', A[j]? = some a ∧ SameT F F' ∧ Rp K F' (.ref a) (.list ds) ∧ Ok K A F' H { S with os := S.os.set j none } σ ∧ ∀ b, b ≠ a → F' b = F b := by
  obtain ⟨a, ha, fa, vs, hv, r, hz⟩ := k.cell j _ hj
  obtain ⟨sm, k'⟩ := k.sealO hj ha hv
  exact ⟨a, _, ha, sm, .lst upd_same (Rps.mono sm _ _ r) hz, k', fun b hb => upd_ne hb⟩
theorem Ok.setR (k : Ok K A F H S σ) {i : Nat} {r : R} {v : V} (q : Rr K A F v r) : Ok K A F H { S with sl := S.sl.set i (some r) } (σ.set i (some v)) := by
  refine ⟨k.sub, by simp [k.len], k.alen, k.nd, fun n e h => ?_, k.cell, k.trk, k.tab⟩
  by_cases hi : i = n
  · subst hi
    have hlt : i < S.sl.length := by
      have := (List.getElem?_eq_some_iff.mp h).1
      simpa using this
    rw [List.getElem?_set_self hlt] at h
    cases h
    exact ⟨v, by rw [List.getElem?_set_self (by rw [← k.len]; exact hlt)], q⟩
  · rw [List.getElem?_set_ne hi] at h ⊢
    exact k.rslot n e h
theorem Ok.setDat (k : Ok K A F H S σ) {i : Nat} {d : PyData} {v : V} (r : Rp K F v d) : Ok K A F H { S with sl := S.sl.set i (some (.dat d)) } (σ.set i (some v)) := k.setR (.dat r)
theorem Ok.setOwn (k : Ok K A F H S σ) {i j : Nat} {a : Addr} (ha : A[j]? = some a) : Ok K A F H { S with sl := S.sl.set i (some (.own j)) } (σ.set i (some (.ref a))) := k.setR (.own ha)
theorem set_at {α : Type} {l : List (Option α)} {i : Nat} {v : α} (hv : l[i]? = some (some v)) : l.set i (some v) = l := by
  apply List.ext_getElem?
  intro n
  by_cases hi : i = n
  · subst hi
    rw [List.getElem?_set_self (List.getElem?_eq_some_iff.mp hv).1, hv]
  · rw [List.getElem?_set_ne hi]
/-- the slot's thing told otherwise, the value as it was -/
theorem Ok.rAt (k : Ok K A F H S σ) {i : Nat} {r : R} {v : V} (hv : σ[i]? = some (some v)) (q : Rr K A F v r) : Ok K A F H { S with sl := S.sl.set i (some r) } σ := by
  have := k.setR (i := i) q
  rwa [set_at hv] at this
theorem Ok.datAt (k : Ok K A F H S σ) {i : Nat} {d : PyData} {v : V} (hv : σ[i]? = some (some v)) (r : Rp K F v d) : Ok K A F H { S with sl := S.sl.set i (some (.dat d)) } σ := k.rAt hv (.dat r)
end
end Fu

set_option maxHeartbeats 4000000
namespace Fu
open PySem PySem.Spec PyProof.Rows L2
variable [TabsC]

theorem bind_inv {α β : Type} {x : Option α} {f : α → Option β} {b : β} (h : x.bind f = some b) : ∃ a, x = some a ∧ f a = some b := by
  cases x with
  | none => cases h
  | some a => exact ⟨a, rfl, h⟩

/-! ### the judgements: an expression's reading meets a function on states -/
def RdE (K : PySem.W.Frag) (t : TE) (g : M D) : Prop := ∀ A F H S σ d S' (Q : VK), Ok K A F H S σ → g S = some (d, S') →
  (∀ A' F' H' v, A <+: A' → SameT F F' → Ok K A' F' H' S' σ → Rp K F' v d → Q v H') → t σ H Q
def RdT (K : PySem.W.Frag) (t : TT) (g : M Bool) : Prop := ∀ A F H S σ b S' (Q : Bool → Hp → Prop), Ok K A F H S σ → g S = some (b, S') →
  (∀ A' F' H', A <+: A' → SameT F F' → Ok K A' F' H' S' σ → Q b H') → t σ H Q
def RdA (K : PySem.W.Frag) (t : TA) (g : M (List D)) : Prop := ∀ A F H S σ ds S' (Q : List V → Hp → Prop), Ok K A F H S σ → g S = some (ds, S') →
  (∀ A' F' H' vs, A <+: A' → SameT F F' → Ok K A' F' H' S' σ → Rps K F' vs ds → Q vs H') → t σ H Q
structure GE (X : Cx) (e : Expr) (g : M D) : Prop where
  ex : ∃ t, PE X e t ∧ RdE X.K t g
structure GT (X : Cx) (e : Expr) (g : M Bool) : Prop where
  ex : ∃ t, PT X e t ∧ RdT X.K t g
structure GW (X : Cx) (e : Expr) (g : M Bool) : Prop where
  ex : ∃ t, PW X e t ∧ RdT X.K t g
structure GA (X : Cx) (es : List Expr) (g : M (List D)) : Prop where
  ex : ∃ t, PA X es t ∧ RdA X.K t g

/-! ### names and constants -/
def gVar (i : Nat) : M D := fun S => match S.sl[i]? with
  | some (some (.dat d)) => some (d, S)
  | some (some (.own j)) => match S.os[j]? with
    | some (some (.lst ds)) => some (.list ds, ⟨S.sl.set i (some (.dat (.list ds))), S.os.set j none⟩)
    | _ => none
  | _ => none
def gC (d : D) : M D := fun S => some (d, S)
section
variable {X : Cx} {pos : Pos}
theorem rd_var {K : PySem.W.Frag} (i : Nat) : RdE K (tVar i) (gVar i) := by
  intro A F H S σ d S' Q k h post
  unfold gVar at h
  cases e : S.sl[i]? with
  | none => rw [e] at h; cases h
  | some r =>
    cases r with
    | none => rw [e] at h; cases h
    | some r =>
      cases r with
      | dat d' =>
        rw [e] at h; cases h
        obtain ⟨v, ev, r⟩ := k.slot i _ e
        exact ⟨v, ev, post A F H v (List.prefix_refl _) (SameT.refl F) k r⟩
      | scr ns => rw [e] at h; cases h
      | tup rs => rw [e] at h; cases h
      | exc c => rw [e] at h; cases h
      | own j =>
        rw [e] at h
        simp only at h
        cases e2 : S.os[j]? with
        | none => rw [e2] at h; cases h
        | some c =>
          cases c with
          | none => rw [e2] at h; cases h
          | some c =>
            cases c with
            | lst ds =>
              rw [e2] at h; cases h
              obtain ⟨a, ha, ev⟩ := k.oslot i j e
              obtain ⟨a', F', ha', sm, r, k', _⟩ := k.seal e2
              rw [ha] at ha'; cases ha'
              exact ⟨_, ev, post A F' H _ (List.prefix_refl _) sm (k'.datAt ev r) r⟩
            | lR _ => rw [e2] at h; cases h
            | dR _ => rw [e2] at h; cases h
            | tR _ => rw [e2] at h; cases h
theorem e_var (i : Nat) {x : Str} (hN : X.N[i]? = some x := by rfl) (hv : Vis X.env.scope x := by first | exact Or.inl rfl | exact Or.inr (Or.inl rfl) | exact Or.inr (Or.inr rfl)) (hd : (x == ("__debug__" : Str)) = false := by decide)
    (hcd : (x == ("__classdict__" : Str)) = false := by decide) : GE X (.Name x pos) (gVar i) := ⟨_, pe_var hN hv hd hcd, rd_var i⟩
theorem rd_c {K : PySem.W.Frag} {v : V} {d : D} (r : ∀ F, Rp K F v d) : RdE K (tC v) (gC d) := by
  intro A F H S σ d' S' Q k h post
  cases h
  exact post A F H v (List.prefix_refl _) (SameT.refl F) k (r F)
theorem e_int {i : Int} {j} : GE X (.Constant (.int i) j pos) (gC (.int i)) := ⟨_, pe_int, rd_c fun _ => .int i⟩
theorem e_bl {b : Bool} {j} : GE X (.Constant (.bool b) j pos) (gC (.bool b)) := ⟨_, pe_bl, rd_c fun _ => .bl b⟩
theorem e_str {x : Str} {j} (hz : x.length ≤ sizeLine := by decide) : GE X (.Constant (.str x) j pos) (gC (.str x)) := ⟨_, pe_str, rd_c fun _ => .str hz⟩
/-- a module's constant -/
theorem e_gint {x : Str} {i : Int} {t : Tok} (hm : X.mg x = some (.int i t)) (hg : Gl X x := by rfl) (hd : (x == ("__debug__" : Str)) = false := by decide) : GE X (.Name x pos) (gC (.int i)) := ⟨_, pe_glob (v := .int i) hg hm ⟨t, rfl⟩ hd, rd_c fun _ => .int i⟩
theorem e_gstr {x z : Str} {t : Tok} (hm : X.mg x = some (.str z t)) (hg : Gl X x := by rfl) (hz : z.length ≤ sizeLine := by decide) (hd : (x == ("__debug__" : Str)) = false := by decide) : GE X (.Name x pos) (gC (.str z)) := ⟨_, pe_glob (v := .str z) hg hm ⟨t, rfl⟩ hd, rd_c fun _ => .str hz⟩
end

/-! ### operators by values -/
def RdOp (K : PySem.W.Frag) (r : R2) (f : D → D → Option D) : Prop := ∀ A F H S σ x y d e z Q, Ok K A F H S σ → Rp K F x d → Rp K F y e → f d e = some z →
  (∀ F' H' v, SameT F F' → Ok K A F' H' S σ → Rp K F' v z → Q v H') → r x y H Q
def gBin (f : D → D → Option D) (ga gb : M D) : M D := fun S => (ga S).bind fun p => (gb p.2).bind fun q => (f p.1 q.1).bind fun z => some (z, q.2)
section
variable {X : Cx} {pos : Pos} {a b : Expr} {ga gb : M D}
theorem rd_op {K : PySem.W.Frag} {r : R2} {f : D → D → Option D} {ta tb : TE} (hf : RdOp K r f) (ra : RdE K ta ga) (rb : RdE K tb gb) : RdE K (tOp r ta tb) (gBin f ga gb) := by
  intro A F H S σ d S' Q k h post
  obtain ⟨⟨x, S1⟩, h1, h⟩ := bind_inv h
  obtain ⟨⟨y, S2⟩, h2, h⟩ := bind_inv h
  obtain ⟨z, h3, h⟩ := bind_inv h
  cases h
  refine ra A F H S σ x S1 _ k h1 fun A1 F1 H1 v1 p1 s1 k1 r1 => rb A1 F1 H1 S1 σ y S2 _ k1 h2 fun A2 F2 H2 v2 p2 s2 k2 r2 => ?_
  exact hf A2 F2 H2 _ σ v1 v2 x y _ Q k2 (r1.mono s2 _ _) r2 h3 fun F3 H3 v s3 k3 r3 => post A2 F3 H3 v (p1.trans p2) (s1.trans (s2.trans s3)) k3 r3
theorem e_op {op : Operator} {r : R2} {f : D → D → Option D} (ho : OpR X (binaryOp op) r) (hf : RdOp X.K r f) (ha : GE X a ga) (hb : GE X b gb) : GE X (.BinOp a op b pos) (gBin f ga gb) :=
  let ⟨_, pa, ra⟩ := ha.ex; let ⟨_, pb, rb⟩ := hb.ex; ⟨_, pe_op ho pa pb, rd_op hf ra rb⟩
theorem e_cmpR {op : CmpOp} {r : R2} {f : D → D → Option D} (ho : OpR X (compareOp op) r) (hf : RdOp X.K r f) (hm : behindInMarks op b = false) (ha : GE X a ga) (hb : GE X b gb) : GE X (.Compare a [op] [b] pos) (gBin f ga gb) :=
  let ⟨_, pa, ra⟩ := ha.ex; let ⟨_, pb, rb⟩ := hb.ex; ⟨_, pe_cmpR ho pa pb hm, rd_op hf ra rb⟩
def gB (g : M D) : M Bool := fun S => (g S).bind fun p => match p.1 with
  | .bool b => some (b, p.2)
  | _ => none
theorem rd_test {K : PySem.W.Frag} {t : TE} {g : M D} (h : RdE K t g) : RdT K (tB t) (gB g) := by
  intro A F H S σ b S' Q k e post
  obtain ⟨⟨d, S1⟩, h1, e⟩ := bind_inv e
  refine h A F H S σ d S1 _ k h1 fun A1 F1 H1 v p1 s1 k1 r1 => ?_
  cases d <;> simp only at e <;> cases e
  cases r1
  exact ⟨_, rfl, post A1 F1 H1 p1 s1 k1⟩
theorem t_cmpR {op : CmpOp} {r : R2} {f : D → D → Option D} (ho : OpR X (compareOp op) r) (hf : RdOp X.K r f) (hm : behindInMarks op b = false) (ha : GE X a ga) (hb : GE X b gb) : GT X (.Compare a [op] [b] pos) (gB (gBin f ga gb)) :=
  let ⟨_, pa, ra⟩ := ha.ex; let ⟨_, pb, rb⟩ := hb.ex; ⟨_, pt_cmpR ho pa pb hm, rd_test (rd_op hf ra rb)⟩
theorem t_val {e : Expr} {g : M D} (h : GE X e g) (he : ∀ whole, isTrue e X.env whole = (do let v ← whole; standAt e.pos; holding [v] (truthy v)) := by intro _; rfl) : GT X e (gB g) :=
  let ⟨_, pe, re⟩ := h.ex; ⟨_, pt_val pe he, rd_test re⟩

/-! ### the operators -/
def dAdd : D → D → Option D
  | .int i, .int j => some (.int (i + j))
  | .str x, .str y => if x.length + y.length ≤ sizeLine then some (.str (x ++ y)) else none
  | .list xs, .list ys => if xs.length + ys.length ≤ sizeLine then some (.list (xs ++ ys)) else none
  | .tuple xs, .tuple ys => if xs.length + ys.length ≤ sizeLine then some (.tuple (xs ++ ys)) else none
  | _, _ => none

end

section
variable {K : PySem.W.Frag}
theorem rps_upd {F : Hp} {p : Addr} {o : HO} {vs : List V} {ds : List D} (h : F p = none) (r : Rps K F vs ds) : Rps K (upd F p o) vs ds := Rps.mono (same_upd h) _ _ r
/-- a new list, a new tuple, known for good -/
theorem Ok.newList {A : List Addr} {F H : Hp} {S : Sx} {σ : L2.St} (k : Ok K A F H S σ) {p : Addr} {vs : List V} {ds : List D} (hp : H p = none) (r : Rps K F vs ds) (hz : ds.length ≤ sizeLine) :
    SameT F (upd F p (.lst vs)) ∧ Ok K A (upd F p (.lst vs)) (upd H p (.lst vs)) S σ ∧ Rp K (upd F p (.lst vs)) (.ref p) (.list ds) :=
  have fp := k.sub.none hp
  ⟨same_upd fp, k.laid hp, .lst upd_same (rps_upd fp r) hz⟩
theorem Ok.newTup {A : List Addr} {F H : Hp} {S : Sx} {σ : L2.St} (k : Ok K A F H S σ) {p : Addr} {vs : List V} {ds : List D} (hp : H p = none) (r : Rps K F vs ds) (hz : ds.length ≤ sizeLine) :
    SameT F (upd F p (.tup vs)) ∧ Ok K A (upd F p (.tup vs)) (upd H p (.tup vs)) S σ ∧ Rp K (upd F p (.tup vs)) (.ref p) (.tuple ds) :=
  have fp := k.sub.none hp
  ⟨same_upd fp, k.laid hp, .tup upd_same (rps_upd fp r) hz⟩
theorem rp_list_inv {F : Hp} {v : V} {ds : List D} (h : Rp K F v (.list ds)) : ∃ a xs, v = .ref a ∧ F a = some (.lst xs) ∧ Rps K F xs ds ∧ ds.length ≤ sizeLine := by
  cases h with
  | lst h1 h2 h3 => exact ⟨_, _, rfl, h1, h2, h3⟩
theorem rp_tup_inv {F : Hp} {v : V} {ds : List D} (h : Rp K F v (.tuple ds)) : ∃ a xs, v = .ref a ∧ SqT K F a xs ∧ Rps K F xs ds ∧ ds.length ≤ sizeLine := by
  cases h with
  | tup h1 h2 h3 => exact ⟨_, _, rfl, .inl (.inl h1), h2, h3⟩
theorem rp_tup_pl {F : Hp} {v : V} {ds : List D} (h : Rp K F v (.tuple ds)) : ∃ a xs, v = .ref a ∧ F a = some (.tup xs) ∧ Rps K F xs ds ∧ ds.length ≤ sizeLine := by
  cases h with
  | tup h1 h2 h3 => exact ⟨_, _, rfl, h1, h2, h3⟩
theorem rp_str_inv {F : Hp} {v : V} {x : Str} (h : Rp K F v (.str x)) : v = .str x ∧ x.length ≤ sizeLine := by
  cases h with
  | str h => exact ⟨rfl, h⟩
theorem rp_int_inv {F : Hp} {v : V} {i : Int} (h : Rp K F v (.int i)) : v = .int i := by cases h; rfl
theorem rp_bool_inv {F : Hp} {v : V} {i : Bool} (h : Rp K F v (.bool i)) : v = .bl i := by cases h; rfl

def rAddAny (K : PySem.W.Frag) : R2 := fun x y H Q => (rI0 (fun i j => .int (i + j)) x y H Q) ∨ (∃ i j, x = .str i ∧ y = .str j ∧ i.length + j.length ≤ sizeLine ∧ Q (.str (i ++ j)) H) ∨ rCat x y H Q ∨ rCatA K x y H Q
theorem op_addAny {X : Cx} : OpR X (binaryOp .Add) (rAddAny X.K) := OpR.or op_add (OpR.or op_add_str (OpR.or op_cat op_catA))
theorem str_app_len (x y : Str) : (x ++ y).length = x.length + y.length := by
  show (Str.append x y).length = _
  simp [Str.append, Str.length]
theorem rd_add : RdOp K (rAddAny K) dAdd := by
  intro A F H S σ x y d e z Q k rx ry h post
  have id1 : ∀ v, Rp K F v z → Q v H := fun v r => post F H v (SameT.refl F) k r
  cases d <;> cases e <;> simp only [dAdd] at h <;> try cases h
  · cases rp_int_inv rx; cases rp_int_inv ry
    exact .inl ⟨_, _, rfl, rfl, id1 _ (.int _)⟩
  · split at h
    · rename_i hz
      cases h
      obtain ⟨rfl, _⟩ := rp_str_inv rx
      obtain ⟨rfl, _⟩ := rp_str_inv ry
      exact .inr (.inl ⟨_, _, rfl, rfl, hz, id1 _ (.str (by rw [str_app_len]; exact hz))⟩)
    · cases h
  · split at h
    · rename_i hz
      cases h
      obtain ⟨a, xs, rfl, h1, h2, _⟩ := rp_list_inv rx
      obtain ⟨b, ys, rfl, g1, g2, _⟩ := rp_list_inv ry
      refine .inr (.inr (.inl ⟨a, b, xs, ys, rfl, rfl, k.sub.same _ _ h1, k.sub.same _ _ g1, by rw [h2.length, g2.length]; exact hz, fun p hp => ?_⟩))
      obtain ⟨s1, k1, r1⟩ := k.newList hp (h2.append g2) (by rw [List.length_append]; exact hz)
      exact post _ _ _ s1 k1 r1
    · cases h
  · split at h
    · rename_i hz
      cases h
      obtain ⟨a, xs, rfl, h1, h2, _⟩ := rp_tup_inv rx
      obtain ⟨b, ys, rfl, g1, g2, _⟩ := rp_tup_inv ry
      refine .inr (.inr (.inr ⟨a, b, xs, ys, rfl, rfl, sqT_same k.sub.same.t h1, sqT_same k.sub.same.t g1, by rw [h2.length, g2.length]; exact hz, fun e => ?_, fun e1 e2 => ?_, fun e1 e2 p hp => ?_⟩))
      · subst e
        cases h2
        exact id1 _ (by simpa using ry)
      · subst e2
        cases g2
        exact id1 _ (by simpa using rx)
      · obtain ⟨s1, k1, r1⟩ := k.newTup hp (h2.append g2) (by rw [List.length_append]; exact hz)
        exact post _ _ _ s1 k1 r1
    · cases h

/-! ### other operators on ints -/
def dSub : D → D → Option D
  | .int i, .int j => some (.int (i - j))
  | _, _ => none
theorem rd_sub : RdOp K (rI0 fun i j => .int (i - j)) dSub := by
  intro A F H S σ x y d e z Q k rx ry h post
  cases d <;> cases e <;> simp only [dSub] at h <;> cases h
  cases rp_int_inv rx; cases rp_int_inv ry
  exact ⟨_, _, rfl, rfl, post F H _ (SameT.refl F) k (.int _)⟩
end
end Fu

set_option maxHeartbeats 4000000
namespace Fu
open PySem PySem.Spec PyProof.Rows L2
variable [TabsC]
section
variable {K : PySem.W.Frag}
/-! ### products, quotients, rests, powers -/
instance (i j : Int) : Decidable (CMulW i j) := inferInstanceAs (Decidable (_ < _))
instance (i j : Int) : Decidable (CDivW i j) := inferInstanceAs (Decidable (_ ∧ _))
instance (i j : Int) : Decidable (CPow i j) := inferInstanceAs (Decidable (_ ∧ _ ∧ _))
def dMul : D → D → Option D
  | .int i, .int j => if CMulW i j then some (.int (i * j)) else none
  | .list xs, .int k => if -(2 ^ 63) ≤ k ∧ k < 2 ^ 63 ∧ xs.length * k.toNat ≤ sizeLine then some (.list (List.replicate k.toNat xs).flatten) else none
  | _, _ => none
def rMulAny : R2 := fun x y H Q => rI CMulW (fun i j => .int (i * j)) x y H Q ∨ rRep x y H Q
theorem op_mulAny {X : Cx} : OpR X (binaryOp .Mult) rMulAny := OpR.or op_mulW op_rep
theorem rd_mul : RdOp K rMulAny dMul := by
  intro A F H S σ x y d e z Q k rx ry h post
  cases d <;> cases e <;> simp only [dMul] at h <;> try cases h
  · split at h
    · rename_i hz
      cases h
      cases rp_int_inv rx; cases rp_int_inv ry
      exact .inl ⟨_, _, rfl, rfl, hz, post F H _ (SameT.refl F) k (.int _)⟩
    · cases h
  · split at h
    · rename_i hz
      cases h
      obtain ⟨a, xs, rfl, h1, h2, _⟩ := rp_list_inv rx
      cases rp_int_inv ry
      refine .inr ⟨a, _, xs, rfl, rfl, k.sub.same _ _ h1, hz.1, hz.2.1, by rw [h2.length]; exact hz.2.2, fun p hp => ?_⟩
      obtain ⟨s1, k1, r1⟩ := k.newList hp (h2.rep _) (by rw [PyProof.Rows.lm_len_rep_flat, Nat.mul_comm]; exact hz.2.2)
      exact post _ _ _ s1 k1 r1
    · cases h
def dDiv : D → D → Option D
  | .int i, .int j => if CDivW i j then some (.int (i / j)) else none
  | _, _ => none
def dMod : D → D → Option D
  | .int i, .int j => if 0 < j then some (.int (i % j)) else none
  | _, _ => none
def dPow : D → D → Option D
  | .int i, .int j => if CPow i j then some (.int (i ^ j.toNat)) else none
  | _, _ => none
theorem rd_ii {C : Int → Int → Prop} [∀ i j, Decidable (C i j)] {f : Int → Int → Int} {g : D → D → Option D} (hg : ∀ d e z, g d e = some z → ∃ i j, d = .int i ∧ e = .int j ∧ C i j ∧ z = .int (f i j)) : RdOp K (rI C fun i j => .int (f i j)) g := by
  intro A F H S σ x y d e z Q k rx ry h post
  obtain ⟨i, j, rfl, rfl, c, rfl⟩ := hg d e z h
  cases rp_int_inv rx; cases rp_int_inv ry
  exact ⟨_, _, rfl, rfl, c, post F H _ (SameT.refl F) k (.int _)⟩
theorem rd_div : RdOp K (rI CDivW fun i j => .int (i / j)) dDiv := rd_ii fun d e z h => by
  cases d <;> cases e <;> simp only [dDiv] at h <;> try cases h
  split at h
  · cases h; exact ⟨_, _, rfl, rfl, by assumption, rfl⟩
  · cases h
theorem rd_mod : RdOp K (rI (fun _ j => 0 < j) fun i j => .int (i % j)) dMod := rd_ii fun d e z h => by
  cases d <;> cases e <;> simp only [dMod] at h <;> try cases h
  split at h
  · cases h; exact ⟨_, _, rfl, rfl, by assumption, rfl⟩
  · cases h
theorem rd_pow : RdOp K (rI CPow fun i j => .int (i ^ j.toNat)) dPow := rd_ii fun d e z h => by
  cases d <;> cases e <;> simp only [dPow] at h <;> try cases h
  split at h
  · cases h; exact ⟨_, _, rfl, rfl, by assumption, rfl⟩
  · cases h

/-! ### comparisons -/
def dCmp (p : Int → Int → Bool) : D → D → Option D
  | .int i, .int j => some (.bool (p i j))
  | _, _ => none
theorem rd_cmp (p : Int → Int → Bool) : RdOp K (rI0 fun i j => .bl (p i j)) (dCmp p) := by
  intro A F H S σ x y d e z Q k rx ry h post
  cases d <;> cases e <;> simp only [dCmp] at h <;> cases h
  cases rp_int_inv rx; cases rp_int_inv ry
  exact ⟨_, _, rfl, rfl, post F H _ (SameT.refl F) k (.bl _)⟩
def strEq : D → D → Option Bool
  | .str x, .str y => some (decide (x = y))
  | _, _ => none
def dEq (d e : D) : Option D := if SeqAt.shaped d = true ∧ SeqAt.shaped e = true then some (.bool (PyData.eqv d e)) else (strEq d e).map .bool
def dNe (d e : D) : Option D := if SeqAt.shaped d = true ∧ SeqAt.shaped e = true then some (.bool (!PyData.eqv d e)) else (strEq d e).map fun b => .bool (!b)
def rEqAny (K : PySem.W.Frag) : R2 := fun x y H Q => rEqD K x y H Q ∨ rEq x y H Q
def rNeAny (K : PySem.W.Frag) : R2 := fun x y H Q => rNeD K x y H Q ∨ rNe x y H Q
theorem op_eqAny {X : Cx} (hu : X.A.units + 64 < cLine) : OpR X (compareOp .Eq) (rEqAny X.K) := OpR.or (op_eqD hu) op_eq
theorem op_neAny {X : Cx} (hu : X.A.units + 64 < cLine) : OpR X (compareOp .NotEq) (rNeAny X.K) := OpR.or (op_neD hu) op_ne
theorem strEq_inv {d e : D} {b : Bool} (h : strEq d e = some b) : ∃ x y, d = .str x ∧ e = .str y ∧ b = decide (x = y) := by
  unfold strEq at h
  split at h
  · cases h; exact ⟨_, _, rfl, rfl, rfl⟩
  · cases h
theorem strV_eq (x y : Str) : decide (V.str x = V.str y) = decide (x = y) := by
  by_cases h : x = y
  · subst h; simp
  · rw [decide_eq_false h, decide_eq_false (fun z => h (by injection z))]
theorem Rp.dpH {F H : Hp} {v : V} {d : D} (s : SameT F H) (c : SeqAt.shaped d = true) (r : Rp K F v d) : Dp K H v d := Rp.dp _ _ (SeqAt.canLay_of_shaped c) (r.mono s _ _)
theorem rd_eq : RdOp K (rEqAny K) dEq := by
  intro A F H S σ x y d e z Q k rx ry h post
  unfold dEq at h
  split at h
  · rename_i c
    cases h
    exact .inl ⟨d, e, rx.dpH k.sub.same.t c.1, ry.dpH k.sub.same.t c.2, c.1, c.2, post F H _ (SameT.refl F) k (.bl _)⟩
  · obtain ⟨b, h1, rfl⟩ := Option.map_eq_some_iff.mp h
    obtain ⟨u, v, rfl, rfl, rfl⟩ := strEq_inv h1
    obtain ⟨rfl, _⟩ := rp_str_inv rx
    obtain ⟨rfl, _⟩ := rp_str_inv ry
    exact .inr ⟨rfl, post F H _ (SameT.refl F) k (by rw [strV_eq]; exact .bl _)⟩
theorem rd_ne : RdOp K (rNeAny K) dNe := by
  intro A F H S σ x y d e z Q k rx ry h post
  unfold dNe at h
  split at h
  · rename_i c
    cases h
    exact .inl ⟨d, e, rx.dpH k.sub.same.t c.1, ry.dpH k.sub.same.t c.2, c.1, c.2, post F H _ (SameT.refl F) k (.bl _)⟩
  · obtain ⟨b, h1, rfl⟩ := Option.map_eq_some_iff.mp h
    obtain ⟨u, v, rfl, rfl, rfl⟩ := strEq_inv h1
    obtain ⟨rfl, _⟩ := rp_str_inv rx
    obtain ⟨rfl, _⟩ := rp_str_inv ry
    exact .inr ⟨rfl, post F H _ (SameT.refl F) k (by rw [strV_eq]; exact .bl _)⟩
/-- in a list, in a tuple, in a text -/
def dIn : D → D → Option D
  | .str x, .str y => some (.bool (!(Builtin.Str.occurrences y x 0 y.length 1).isEmpty))
  | d, .list ds => if SeqAt.shaped d = true ∧ SeqAt.shaped (.list ds) = true then some (.bool (ds.any fun z => PyData.eqv z d)) else none
  | d, .tuple ds => if SeqAt.shaped d = true ∧ SeqAt.shaped (.tuple ds) = true then some (.bool (ds.any fun z => PyData.eqv z d)) else none
  | _, _ => none
def dNotIn : D → D → Option D
  | .str x, .str y => some (.bool (!(!(Builtin.Str.occurrences y x 0 y.length 1).isEmpty)))
  | d, .list ds => if SeqAt.shaped d = true ∧ SeqAt.shaped (.list ds) = true then some (.bool (!ds.any fun z => PyData.eqv z d)) else none
  | d, .tuple ds => if SeqAt.shaped d = true ∧ SeqAt.shaped (.tuple ds) = true then some (.bool (!ds.any fun z => PyData.eqv z d)) else none
  | _, _ => none
def rNotInT (K : PySem.W.Frag) : R2 := fun x y H Q => ∃ d ds, Dp K H x d ∧ Dp K H y (.tuple ds) ∧ SeqAt.shaped d = true ∧ SeqAt.shaped (.tuple ds) = true ∧ Q (.bl (!ds.any fun z => PyData.eqv z d)) H
theorem op_notInT {X : Cx} (hu : X.A.units + 65 < cLine) : OpR X (compareOp .NotIn) (rNotInT X.K) := by
  intro pins s σ H x y v u Q I rx ry h
  obtain ⟨d, ds, hd, he, sd, se, q⟩ := h
  obtain ⟨as, r1⟩ := Dp.reads I d x v hd rx
  obtain ⟨bs, r2⟩ := Dp.reads I (.tuple ds) y u he ry
  exact SeqAt.notIn_tuple_reads r2 r1 (SeqAt.canLay_of_shaped se) (SeqAt.canLay_of_shaped sd) (room_in_shaped (xs := ds) sd hu) ⟨.bl _, H, I, rfl, q⟩
def rNotInAny (K : PySem.W.Frag) : R2 := fun x y H Q => (∃ i j, x = .str i ∧ y = .str j ∧ Q (.bl (!(!(Builtin.Str.occurrences j i 0 j.length 1).isEmpty))) H) ∨ rNotInD K x y H Q ∨ rNotInT K x y H Q
theorem op_notInAny {X : Cx} (hu : X.A.units + 65 < cLine) : OpR X (compareOp .NotIn) (rNotInAny X.K) := OpR.or op_notin_str (OpR.or (op_notInD hu) (op_notInT hu))
/-- is, is not: None, truths -/
def dIs : D → D → Option D
  | .bool a, .bool b => some (.bool (decide (a = b)))
  | .none, .none => some (.bool true)
  | _, .none => some (.bool false)
  | _, _ => none
def dIsNot : D → D → Option D
  | .bool a, .bool b => some (.bool (!decide (a = b)))
  | .none, .none => some (.bool false)
  | _, .none => some (.bool true)
  | _, _ => none
def rIsAny : R2 := fun x y H Q => rIsB x y H Q ∨ (y = .non ∧ Q (.bl (decide (x = .non))) H)
def rIsNotAny : R2 := fun x y H Q => rNotB x y H Q ∨ (y = .non ∧ Q (.bl (!decide (x = .non))) H)
theorem op_isAny {X : Cx} : OpR X (compareOp .Is) rIsAny := OpR.or op_isBl op_isN
theorem op_isNotAny {X : Cx} : OpR X (compareOp .IsNot) rIsNotAny := OpR.or op_notBl op_notN
theorem rp_ne_non {F : Hp} {v : V} {d : D} (r : Rp K F v d) (h : d = .none → False) : decide (v = V.non) = false := by
  cases r <;> first | exact (h rfl).elim | simp
theorem rd_is : RdOp K rIsAny dIs := by
  intro A F H S σ x y d e z Q k rx ry h post
  have fin : ∀ b, z = .bool b → Q (.bl b) H := fun b e => by subst e; exact post F H _ (SameT.refl F) k (.bl _)
  unfold dIs at h
  split at h
  · cases h
    cases rp_bool_inv rx; cases rp_bool_inv ry
    exact .inl ⟨_, _, rfl, rfl, fin _ rfl⟩
  · cases h
    cases rx; cases ry
    exact .inr ⟨rfl, fin _ rfl⟩
  · cases h
    rename_i hne
    cases ry
    refine .inr ⟨rfl, fin _ ?_⟩
    rw [rp_ne_non rx hne]
  · cases h
theorem rd_isNot : RdOp K rIsNotAny dIsNot := by
  intro A F H S σ x y d e z Q k rx ry h post
  have fin : ∀ b, z = .bool b → Q (.bl b) H := fun b e => by subst e; exact post F H _ (SameT.refl F) k (.bl _)
  unfold dIsNot at h
  split at h
  · cases h
    cases rp_bool_inv rx; cases rp_bool_inv ry
    exact .inl ⟨_, _, rfl, rfl, fin _ rfl⟩
  · cases h
    cases rx; cases ry
    exact .inr ⟨rfl, fin _ rfl⟩
  · cases h
    rename_i hne
    cases ry
    refine .inr ⟨rfl, fin _ ?_⟩
    rw [rp_ne_non rx hne]; rfl
  · cases h
end

/-! ### the expressions' rules by operators -/
section
variable {X : Cx} {pos : Pos} {a b c : Expr} {ga gb gc : M D}
theorem e_add (ha : GE X a ga) (hb : GE X b gb) : GE X (.BinOp a .Add b pos) (gBin dAdd ga gb) := e_op op_addAny rd_add ha hb
theorem e_sub (ha : GE X a ga) (hb : GE X b gb) : GE X (.BinOp a .Sub b pos) (gBin dSub ga gb) := e_op op_sub rd_sub ha hb
theorem e_mul (ha : GE X a ga) (hb : GE X b gb) : GE X (.BinOp a .Mult b pos) (gBin dMul ga gb) := e_op op_mulAny rd_mul ha hb
theorem e_div (ha : GE X a ga) (hb : GE X b gb) : GE X (.BinOp a .FloorDiv b pos) (gBin dDiv ga gb) := e_op op_fdivW rd_div ha hb
theorem e_mod (ha : GE X a ga) (hb : GE X b gb) : GE X (.BinOp a .Mod b pos) (gBin dMod ga gb) := e_op op_mod rd_mod ha hb
theorem e_pow (ha : GE X a ga) (hb : GE X b gb) : GE X (.BinOp a .Pow b pos) (gBin dPow ga gb) := e_op op_pow rd_pow ha hb
abbrev dLt := dCmp fun i j => decide (i < j)
abbrev dLe := dCmp fun i j => decide (i ≤ j)
abbrev dGt := dCmp fun i j => decide (j < i)
abbrev dGe := dCmp fun i j => decide (j ≤ i)
theorem e_lt (ha : GE X a ga) (hb : GE X b gb) : GE X (.Compare a [.Lt] [b] pos) (gBin dLt ga gb) := e_cmpR op_lt (rd_cmp _) (nomark _) ha hb
theorem e_ge (ha : GE X a ga) (hb : GE X b gb) : GE X (.Compare a [.GtE] [b] pos) (gBin dGe ga gb) := e_cmpR op_ge (rd_cmp _) (nomark _) ha hb
theorem e_eq (hu : X.A.units + 64 < cLine) (ha : GE X a ga) (hb : GE X b gb) : GE X (.Compare a [.Eq] [b] pos) (gBin dEq ga gb) := e_cmpR (op_eqAny hu) rd_eq (nomark _) ha hb
theorem e_ne (hu : X.A.units + 64 < cLine) (ha : GE X a ga) (hb : GE X b gb) : GE X (.Compare a [.NotEq] [b] pos) (gBin dNe ga gb) := e_cmpR (op_neAny hu) rd_ne (nomark _) ha hb
theorem e_is (ha : GE X a ga) (hb : GE X b gb) : GE X (.Compare a [.Is] [b] pos) (gBin dIs ga gb) := e_cmpR op_isAny rd_is (nomark _) ha hb
theorem t_gt (ha : GE X a ga) (hb : GE X b gb) : GT X (.Compare a [.Gt] [b] pos) (gB (gBin dGt ga gb)) := t_cmpR op_gt (rd_cmp _) (nomark _) ha hb
theorem t_ge (ha : GE X a ga) (hb : GE X b gb) : GT X (.Compare a [.GtE] [b] pos) (gB (gBin dGe ga gb)) := t_cmpR op_ge (rd_cmp _) (nomark _) ha hb
theorem t_eq (hu : X.A.units + 64 < cLine) (ha : GE X a ga) (hb : GE X b gb) : GT X (.Compare a [.Eq] [b] pos) (gB (gBin dEq ga gb)) := t_cmpR (op_eqAny hu) rd_eq (nomark _) ha hb
theorem t_ne (hu : X.A.units + 64 < cLine) (ha : GE X a ga) (hb : GE X b gb) : GT X (.Compare a [.NotEq] [b] pos) (gB (gBin dNe ga gb)) := t_cmpR (op_neAny hu) rd_ne (nomark _) ha hb
theorem t_isNot (ha : GE X a ga) (hb : GE X b gb) : GT X (.Compare a [.IsNot] [b] pos) (gB (gBin dIsNot ga gb)) := t_cmpR op_isNotAny rd_isNot (nomark _) ha hb

/-! ### and, or, not, if -/
def gAnd (g h : M Bool) : M Bool := fun S => (g S).bind fun p => if p.1 = true then h p.2 else some (false, p.2)
def gOr (g h : M Bool) : M Bool := fun S => (g S).bind fun p => if p.1 = true then some (true, p.2) else h p.2
def gNot (g : M Bool) : M Bool := fun S => (g S).bind fun p => some (!p.1, p.2)
def gIf (t : M Bool) (g h : M D) : M D := fun S => (t S).bind fun p => if p.1 = true then g p.2 else h p.2
variable {rest : List Expr} {g h : M Bool}
theorem w_and1 (ha : GT X a g) : GW X (.BoolOp .And [a] pos) g := let ⟨_, pa, ra⟩ := ha.ex; ⟨_, pw_and1 pa, ra⟩
theorem w_or1 (ha : GT X a g) : GW X (.BoolOp .Or [a] pos) g := let ⟨_, pa, ra⟩ := ha.ex; ⟨_, pw_or1 pa, ra⟩
theorem rd_and {K : PySem.W.Frag} {t u : TT} (ha : RdT K t g) (hb : RdT K u h) : RdT K (tAnd t u) (gAnd g h) := by
  intro A F H S σ d S' Q k e post
  obtain ⟨⟨x, S1⟩, h1, e⟩ := bind_inv e
  refine ha A F H S σ x S1 _ k h1 fun A1 F1 H1 p1 s1 k1 => ?_
  cases x with
  | true => exact hb A1 F1 H1 S1 σ d S' Q k1 e fun A2 F2 H2 p2 s2 k2 => post A2 F2 H2 (p1.trans p2) (s1.trans s2) k2
  | false =>
    cases e
    exact post A1 F1 H1 p1 s1 k1
theorem rd_or {K : PySem.W.Frag} {t u : TT} (ha : RdT K t g) (hb : RdT K u h) : RdT K (tOr t u) (gOr g h) := by
  intro A F H S σ d S' Q k e post
  obtain ⟨⟨x, S1⟩, h1, e⟩ := bind_inv e
  refine ha A F H S σ x S1 _ k h1 fun A1 F1 H1 p1 s1 k1 => ?_
  cases x with
  | false => exact hb A1 F1 H1 S1 σ d S' Q k1 e fun A2 F2 H2 p2 s2 k2 => post A2 F2 H2 (p1.trans p2) (s1.trans s2) k2
  | true =>
    cases e
    exact post A1 F1 H1 p1 s1 k1
theorem w_and (ha : GT X a g) (hb : GW X (.BoolOp .And (b :: rest) pos) h) : GW X (.BoolOp .And (a :: b :: rest) pos) (gAnd g h) :=
  let ⟨_, pa, ra⟩ := ha.ex; let ⟨_, pb, rb⟩ := hb.ex; ⟨_, pw_and pa pb, rd_and ra rb⟩
theorem w_or (ha : GT X a g) (hb : GW X (.BoolOp .Or (b :: rest) pos) h) : GW X (.BoolOp .Or (a :: b :: rest) pos) (gOr g h) :=
  let ⟨_, pa, ra⟩ := ha.ex; let ⟨_, pb, rb⟩ := hb.ex; ⟨_, pw_or pa pb, rd_or ra rb⟩
theorem t_w {e : Expr} (hw : GW X e g) : GT X e g := let ⟨_, pa, ra⟩ := hw.ex; ⟨_, pa.pt, ra⟩
theorem t_not (ha : GT X a g) : GT X (.UnaryOp .Not a pos) (gNot g) := by
  obtain ⟨t, pa, ra⟩ := ha.ex
  refine ⟨_, pt_not pa, fun A F H S σ d S' Q k e post => ?_⟩
  obtain ⟨⟨x, S1⟩, h1, e⟩ := bind_inv e
  cases e
  exact ra A F H S σ x _ _ k h1 post
/-- as values -/
def gAndV (g h : M D) : M D := fun S => (g S).bind fun p => match p.1 with
  | .bool true => h p.2
  | .bool false => some (.bool false, p.2)
  | _ => none
def gOrV (g h : M D) : M D := fun S => (g S).bind fun p => match p.1 with
  | .bool true => some (.bool true, p.2)
  | .bool false => h p.2
  | _ => none
def gNotV (g : M D) : M D := fun S => (g S).bind fun p => match p.1 with
  | .bool b => some (.bool (!b), p.2)
  | _ => none
theorem e_one {op} (ha : GE X a ga) : GE X (.BoolOp op [a] pos) ga := let ⟨_, pa, ra⟩ := ha.ex; ⟨_, pe_one pa, ra⟩
theorem e_and (ha : GE X a ga) (hb : GE X (.BoolOp .And (b :: rest) pos) gb) : GE X (.BoolOp .And (a :: b :: rest) pos) (gAndV ga gb) := by
  obtain ⟨t, pa, ra⟩ := ha.ex
  obtain ⟨u, pb, rb⟩ := hb.ex
  refine ⟨_, pe_and pa pb, fun A F H S σ d S' Q k e post => ?_⟩
  obtain ⟨⟨x, S1⟩, h1, e⟩ := bind_inv e
  refine ra A F H S σ x S1 _ k h1 fun A1 F1 H1 v p1 s1 k1 r1 => ?_
  cases x <;> simp only at e <;> try cases e
  rename_i y
  cases rp_bool_inv r1
  refine ⟨y, rfl, ?_⟩
  cases y with
  | true => exact rb A1 F1 H1 S1 σ d S' Q k1 e fun A2 F2 H2 v p2 s2 k2 => post A2 F2 H2 v (p1.trans p2) (s1.trans s2) k2
  | false =>
    cases e
    exact post A1 F1 H1 _ p1 s1 k1 (.bl _)
theorem e_or (ha : GE X a ga) (hb : GE X (.BoolOp .Or (b :: rest) pos) gb) : GE X (.BoolOp .Or (a :: b :: rest) pos) (gOrV ga gb) := by
  obtain ⟨t, pa, ra⟩ := ha.ex
  obtain ⟨u, pb, rb⟩ := hb.ex
  refine ⟨_, pe_or pa pb, fun A F H S σ d S' Q k e post => ?_⟩
  obtain ⟨⟨x, S1⟩, h1, e⟩ := bind_inv e
  refine ra A F H S σ x S1 _ k h1 fun A1 F1 H1 v p1 s1 k1 r1 => ?_
  cases x <;> simp only at e <;> try cases e
  rename_i y
  cases rp_bool_inv r1
  refine ⟨y, rfl, ?_⟩
  cases y with
  | false => exact rb A1 F1 H1 S1 σ d S' Q k1 e fun A2 F2 H2 v p2 s2 k2 => post A2 F2 H2 v (p1.trans p2) (s1.trans s2) k2
  | true =>
    cases e
    exact post A1 F1 H1 _ p1 s1 k1 (.bl _)
theorem e_not (ha : GE X a ga) : GE X (.UnaryOp .Not a pos) (gNotV ga) := by
  obtain ⟨t, pa, ra⟩ := ha.ex
  refine ⟨_, pe_not pa, fun A F H S σ d S' Q k e post => ?_⟩
  obtain ⟨⟨x, S1⟩, h1, e⟩ := bind_inv e
  refine ra A F H S σ x S1 _ k h1 fun A1 F1 H1 v p1 s1 k1 r1 => ?_
  cases x <;> simp only at e <;> try cases e
  cases rp_bool_inv r1
  exact ⟨_, rfl, post A1 F1 H1 _ p1 s1 k1 (.bl _)⟩
theorem e_if (hc : GT X c g) (ha : GE X a ga) (hb : GE X b gb) : GE X (.IfExp c a b pos) (gIf g ga gb) := by
  obtain ⟨t, pc, rc⟩ := hc.ex
  obtain ⟨_, pa, ra⟩ := ha.ex
  obtain ⟨_, pb, rb⟩ := hb.ex
  refine ⟨_, pe_ifExp pc pa pb, fun A F H S σ d S' Q k e post => ?_⟩
  obtain ⟨⟨x, S1⟩, h1, e⟩ := bind_inv e
  refine rc A F H S σ x S1 _ k h1 fun A1 F1 H1 p1 s1 k1 => ?_
  cases x with
  | true => exact ra A1 F1 H1 S1 σ d S' Q k1 e fun A2 F2 H2 v p2 s2 k2 => post A2 F2 H2 v (p1.trans p2) (s1.trans s2) k2
  | false => exact rb A1 F1 H1 S1 σ d S' Q k1 e fun A2 F2 H2 v p2 s2 k2 => post A2 F2 H2 v (p1.trans p2) (s1.trans s2) k2
def gUn (f : D → Option D) (g : M D) : M D := fun S => (g S).bind fun p => (f p.1).bind fun z => some (z, p.2)
def dNeg : D → Option D
  | .int i => some (.int (-i))
  | _ => none
theorem e_neg (ha : GE X a ga) : GE X (.UnaryOp .USub a pos) (gUn dNeg ga) := by
  obtain ⟨t, pa, ra⟩ := ha.ex
  refine ⟨_, pe_un un_neg pa, fun A F H S σ d S' Q k e post => ?_⟩
  obtain ⟨⟨x, S1⟩, h1, e⟩ := bind_inv e
  obtain ⟨z, h2, e⟩ := bind_inv e
  cases e
  refine ra A F H S σ x _ _ k h1 fun A1 F1 H1 v p1 s1 k1 r1 => ?_
  cases x <;> simp only [dNeg] at h2 <;> cases h2
  cases rp_int_inv r1
  exact ⟨_, rfl, post A1 F1 H1 _ p1 s1 k1 (.int _)⟩

/-! ### arguments, displays -/
def gNil : M (List D) := fun S => some ([], S)
def gCons (g : M D) (gs : M (List D)) : M (List D) := fun S => (g S).bind fun p => (gs p.2).bind fun q => some (p.1 :: q.1, q.2)
variable {e : Expr} {es : List Expr} {ge : M D} {gs : M (List D)}
theorem a_nil : GA X [] gNil := ⟨_, pa_nil, fun A F H S σ d S' Q k e post => by cases e; exact post A F H _ (List.prefix_refl _) (SameT.refl F) k .nil⟩
theorem a_cons (ha : GE X e ge) (hs : GA X es gs) (hst : starEach (e :: es) X.env = (false, eval e X.env) :: starEach es X.env := by rfl) : GA X (e :: es) (gCons ge gs) := by
  obtain ⟨t, pa, ra⟩ := ha.ex
  obtain ⟨u, pb, rb⟩ := hs.ex
  refine ⟨_, pa_cons pa pb hst, fun A F H S σ d S' Q k e post => ?_⟩
  obtain ⟨⟨x, S1⟩, h1, e⟩ := bind_inv e
  obtain ⟨⟨y, S2⟩, h2, e⟩ := bind_inv e
  cases e
  refine ra A F H S σ x S1 _ k h1 fun A1 F1 H1 v p1 s1 k1 r1 => rb A1 F1 H1 S1 σ y S2 _ k1 h2 fun A2 F2 H2 vs p2 s2 k2 r2 => ?_
  exact post A2 F2 H2 _ (p1.trans p2) (s1.trans s2) k2 (.cons (r1.mono s2 _ _) r2)
def gTup (g : M (List D)) : M D := fun S => (g S).bind fun p => if p.1.length ≤ sizeLine then some (.tuple p.1, p.2) else none
def gLst (g : M (List D)) : M D := fun S => (g S).bind fun p => if p.1.length ≤ sizeLine then some (.list p.1, p.2) else none
theorem e_tup {x1} (hs : GA X es gs) : GE X (.Tuple es x1 pos) (gTup gs) := by
  obtain ⟨u, pb, rb⟩ := hs.ex
  refine ⟨_, pe_tup pb, fun A F H S σ d S' Q k e post => ?_⟩
  obtain ⟨⟨x, S1⟩, h1, e⟩ := bind_inv e
  simp only at e
  split at e
  · rename_i hz
    cases e
    refine rb A F H S σ x _ _ k h1 fun A1 F1 H1 vs p1 s1 k1 r1 => ⟨by rw [r1.length]; exact hz, fun p hp => ?_⟩
    obtain ⟨s2, k2, r2⟩ := k1.newTup hp r1 hz
    exact post A1 _ _ _ p1 (s1.trans s2) k2 r2
  · cases e
theorem e_lst (hs : GA X es gs) : GE X (.List es pos) (gLst gs) := by
  obtain ⟨u, pb, rb⟩ := hs.ex
  refine ⟨_, pe_lst pb, fun A F H S σ d S' Q k e post => ?_⟩
  obtain ⟨⟨x, S1⟩, h1, e⟩ := bind_inv e
  simp only at e
  split at e
  · rename_i hz
    cases e
    refine rb A F H S σ x _ _ k h1 fun A1 F1 H1 vs p1 s1 k1 r1 => ⟨by rw [r1.length]; exact hz, fun p hp => ?_⟩
    obtain ⟨s2, k2, r2⟩ := k1.newList hp r1 hz
    exact post A1 _ _ _ p1 (s1.trans s2) k2 r2
  · cases e

/-! ### items, slices -/
def dIx : D → D → Option D
  | .list xs, .int i => atI xs i
  | .tuple xs, .int i => atI xs i
  | .str z, .int i => (atI z.cps.toList i).bind fun c => some (.str ⟨#[c]⟩)
  | _, _ => none
theorem rps_atI {K : PySem.W.Frag} {F : Hp} {vs : List V} {ds : List D} {i : Int} {d : D} (r : Rps K F vs ds) (h : atI ds i = some d) : ∃ v, atI vs i = some v ∧ Rp K F v d := by
  unfold atI at h ⊢
  rw [r.length]
  obtain ⟨j, h1, h2⟩ := bind_inv h
  rw [h1]
  exact r.get h2
def rIxAny (K : PySem.W.Frag) : R2 := fun x y H Q => rIxL K x y H Q ∨ rIxT K x y H Q ∨ rIxS x y H Q
theorem ix_any : IxR X (rIxAny X.K) := IxR.or ix_list (IxR.or ix_tup ix_str)
theorem one_len (c : Nat) : (⟨#[c]⟩ : Str).length ≤ sizeLine := by
  show 1 ≤ sizeLine
  decide
theorem rd_ix {K : PySem.W.Frag} : RdOp K (rIxAny K) dIx := by
  intro A F H S σ x y d e z Q k rx ry h post
  unfold dIx at h
  split at h
  · obtain ⟨a, xs, rfl, h1, h2, _⟩ := rp_list_inv rx
    cases rp_int_inv ry
    obtain ⟨v, e1, r⟩ := rps_atI h2 h
    exact .inl ⟨a, xs, _, v, rfl, rfl, SqL.of (k.sub.same _ _ h1), e1, post F H _ (SameT.refl F) k r⟩
  · obtain ⟨a, xs, rfl, h1, h2, _⟩ := rp_tup_inv rx
    cases rp_int_inv ry
    obtain ⟨v, e1, r⟩ := rps_atI h2 h
    exact .inr (.inl ⟨a, xs, _, v, rfl, rfl, sqT_same k.sub.same.t h1, e1, post F H _ (SameT.refl F) k r⟩)
  · obtain ⟨rfl, hz⟩ := rp_str_inv rx
    cases rp_int_inv ry
    obtain ⟨c, h1, h2⟩ := bind_inv h
    cases h2
    exact .inr (.inr ⟨_, _, c, rfl, rfl, hz, h1, post F H _ (SameT.refl F) k (.str (one_len c))⟩)
  · cases h
theorem e_ix (ha : GE X a ga) (hb : GE X b gb) (hs : PlainIx b := by exact fun _ _ => rfl) : GE X (.Subscript a b pos) (gBin dIx ga gb) := by
  obtain ⟨t, pa, ra⟩ := ha.ex
  obtain ⟨u, pb, rb⟩ := hb.ex
  exact ⟨_, pe_ix ix_any pa pb hs, rd_op rd_ix ra rb⟩
/-- a slice's part -/
structure GO (X : Cx) (e : Option Expr) (g : M (Option Int)) : Prop where
  ex : ∃ t, PO X e t ∧ ∀ A F H S σ o S' (Q : Option Int → Hp → Prop), Ok X.K A F H S σ → g S = some (o, S') → (∀ A' F' H', A <+: A' → SameT F F' → Ok X.K A' F' H' S' σ → Q o H') → t σ H Q
def gNo : M (Option Int) := fun S => some (none, S)
def gSo (g : M D) : M (Option Int) := fun S => (g S).bind fun p => match p.1 with
  | .int i => some (some i, p.2)
  | _ => none
theorem o_none : GO X none gNo := ⟨_, po_none, fun A F H S σ o S' Q k e post => by cases e; exact post A F H (List.prefix_refl _) (SameT.refl F) k⟩
theorem o_some (ha : GE X a ga) : GO X (some a) (gSo ga) := by
  obtain ⟨t, pa, ra⟩ := ha.ex
  refine ⟨_, po_some pa, fun A F H S σ o S' Q k e post => ?_⟩
  obtain ⟨⟨x, S1⟩, h1, e⟩ := bind_inv e
  refine ra A F H S σ x _ _ k h1 fun A1 F1 H1 v p1 s1 k1 r1 => ?_
  cases x <;> simp only at e <;> cases e
  cases rp_int_inv r1
  exact ⟨_, rfl, post A1 F1 H1 p1 s1 k1⟩
def cutL {α : Type} (xs : List α) (lo hi : Option Int) : List α := (xs.drop (HT.sIx xs.length 0 lo)).take (HT.sIx xs.length xs.length hi - HT.sIx xs.length 0 lo)
theorem cutL_le {α : Type} (xs : List α) (lo hi : Option Int) : (cutL xs lo hi).length ≤ xs.length := by
  unfold cutL
  rw [List.length_take, List.length_drop]
  omega
def dSl : D → Option Int → Option Int → Option D
  | .list xs, lo, hi => some (.list (cutL xs lo hi))
  | .tuple xs, lo, hi => some (.tuple (cutL xs lo hi))
  | .str z, lo, hi => some (.str (cutS z lo hi))
  | _, _, _ => none
def gSl (g : M D) (gl gh : M (Option Int)) : M D := fun S => (g S).bind fun p => (gl p.2).bind fun q => (gh q.2).bind fun r => (dSl p.1 q.1 r.1).bind fun z => some (z, r.2)
def rSlAny (K : PySem.W.Frag) : V → Option Int → Option Int → Hp → VK → Prop := fun x lo hi H Q => rSlL K x lo hi H Q ∨ rSlA K x lo hi H Q ∨ rSlS x lo hi H Q
theorem sl_any : SlR X (rSlAny X.K) := SlR.or sl_list (SlR.or sl_tupA sl_str)
theorem rps_cut {K : PySem.W.Frag} {F : Hp} {vs : List V} {ds : List D} (r : Rps K F vs ds) (lo hi : Option Int) : Rps K F (cutV vs lo hi) (cutL ds lo hi) := by
  unfold cutV cutL
  rw [r.length]
  exact (r.drop _).take _
theorem rd_sl {K : PySem.W.Frag} {A : List Addr} {F H : Hp} {S : Sx} {σ : L2.St} {x : V} {d z : D} {lo hi : Option Int} {Q : VK} (k : Ok K A F H S σ) (rx : Rp K F x d) (h : dSl d lo hi = some z)
    (post : ∀ F' H' v, SameT F F' → Ok K A F' H' S σ → Rp K F' v z → Q v H') : rSlAny K x lo hi H Q := by
  cases d <;> simp only [dSl] at h <;> cases h
  · obtain ⟨rfl, hz⟩ := rp_str_inv rx
    exact .inr (.inr ⟨_, rfl, hz, post F H _ (SameT.refl F) k (.str (Nat.le_trans (cutS_length _ _ _) hz))⟩)
  · obtain ⟨a, xs, rfl, h1, h2, h3⟩ := rp_list_inv rx
    refine .inl ⟨a, xs, rfl, SqL.of (k.sub.same _ _ h1), fun p hp => ?_⟩
    obtain ⟨s1, k1, r1⟩ := k.newList hp (rps_cut h2 lo hi) (Nat.le_trans (cutL_le _ _ _) h3)
    exact post _ _ _ s1 k1 r1
  · obtain ⟨a, xs, rfl, h1, h2, h3⟩ := rp_tup_inv rx
    refine .inr (.inl ⟨a, xs, rfl, sqT_same k.sub.same.t h1, fun hw => ?_, fun _ p hp => ?_⟩)
    · refine post F H _ (SameT.refl F) k ?_
      rename_i ds
      have : cutL ds lo hi = ds := by
        unfold cutL
        rw [← h2.length, hw.1, hw.2, h2.length]
        simp
      rw [this]
      exact rx
    · obtain ⟨s1, k1, r1⟩ := k.newTup hp (rps_cut h2 lo hi) (Nat.le_trans (cutL_le _ _ _) h3)
      exact post _ _ _ s1 k1 r1
theorem e_sl {lo hi : Option Expr} {p2 : Pos} {gl gh : M (Option Int)} (ha : GE X a ga) (hl : GO X lo gl) (hh : GO X hi gh) : GE X (.Subscript a (.Slice lo hi none p2) pos) (gSl ga gl gh) := by
  obtain ⟨t, pa, ra⟩ := ha.ex
  obtain ⟨_, pl, rl⟩ := hl.ex
  obtain ⟨_, ph, rh⟩ := hh.ex
  refine ⟨_, pe_slice sl_any pa pl ph, fun A F H S σ d S' Q k e post => ?_⟩
  obtain ⟨⟨x, S1⟩, h1, e⟩ := bind_inv e
  obtain ⟨⟨l, S2⟩, h2, e⟩ := bind_inv e
  obtain ⟨⟨u, S3⟩, h3, e⟩ := bind_inv e
  obtain ⟨z, h4, e⟩ := bind_inv e
  cases e
  refine ra A F H S σ x _ _ k h1 fun A1 F1 H1 v p1 s1 k1 r1 => rl A1 F1 H1 _ σ l _ _ k1 h2 fun A2 F2 H2 p2 s2 k2 => rh A2 F2 H2 _ σ u _ _ k2 h3 fun A3 F3 H3 p3 s3 k3 => ?_
  exact rd_sl k3 ((r1.mono s2 _ _).mono s3 _ _) h4 fun F4 H4 w s4 k4 r4 => post A3 F4 H4 w (p1.trans (p2.trans p3)) (s1.trans (s2.trans (s3.trans s4))) k4 r4
end
end Fu

set_option maxHeartbeats 4000000
namespace Fu
open PySem PySem.Spec PyProof.Rows L2
variable [TabsC]

/-! ### calls of built-ins by name -/
def RdC (K : PySem.W.Frag) (r : List V → Hp → VK → Prop) (f : List D → Option D) : Prop := ∀ A F H S σ xs ds z Q, Ok K A F H S σ → Rps K F xs ds → f ds = some z →
  (∀ F' H' v, SameT F F' → Ok K A F' H' S σ → Rp K F' v z → Q v H') → r xs H Q
def gCall (f : List D → Option D) (g : M (List D)) : M D := fun S => (g S).bind fun p => (f p.1).bind fun z => some (z, p.2)
section
variable {X : Cx} {pos p p2 : Pos} {x : Str} {e : Expr} {es : List Expr} {gs : M (List D)} {r : List V → Hp → VK → Prop} {f : List D → Option D} {id T : String}
theorem rd_callB {K : PySem.W.Frag} {t : TA} (hf : RdC K r f) (rs : RdA K t gs) : RdE K (tCB r t) (gCall f gs) := by
  intro A F H S σ d S' Q k h post
  obtain ⟨⟨ds, S1⟩, h1, h⟩ := bind_inv h
  obtain ⟨z, h2, h⟩ := bind_inv h
  cases h
  exact rs A F H S σ ds _ _ k h1 fun A1 F1 H1 vs p1 s1 k1 r1 => hf A1 F1 H1 _ σ vs ds _ Q k1 r1 h2 fun F2 H2 v s2 k2 r2 => post A1 F2 H2 v p1 (s1.trans s2) k2 r2
theorem e_callB (hc : CallR X (.builtin id) r) (hf : RdC X.K r f) (hm : X.mg x = none) (hv : bootBuiltins x = some (.builtin id)) (ha : GA X (e :: es) gs) (hg : Gl X x := by rfl) (hn : x ≠ "__name__" := by decide) (hdb : (x == ("__debug__" : Str)) = false := by decide)
    (he : starEach (e :: es) X.env = (false, eval e X.env) :: starEach es X.env := by rfl) (hpl : (backTo pos (starEach es X.env)).any (·.1) = false := by rfl) : GE X (.Call (.Name x p) (e :: es) [] pos) (gCall f gs) :=
  let ⟨_, pa, ra⟩ := ha.ex; ⟨_, pe_callB hc hg hm hv pa hn hdb he hpl, rd_callB hf ra⟩
theorem e_callTy (hc : CallR X (.type T) r) (hf : RdC X.K r f) (hm : X.mg x = none) (hv : bootBuiltins x = some (.type T)) (ha : GA X (e :: es) gs) (hg : Gl X x := by rfl) (hn : x ≠ "__name__" := by decide) (hdb : (x == ("__debug__" : Str)) = false := by decide)
    (he : starEach (e :: es) X.env = (false, eval e X.env) :: starEach es X.env := by rfl) (hpl : (backTo pos (starEach es X.env)).any (·.1) = false := by rfl) : GE X (.Call (.Name x p) (e :: es) [] pos) (gCall f gs) :=
  let ⟨_, pa, ra⟩ := ha.ex; ⟨_, pe_callTy hc hg hm hv pa hn hdb he hpl, rd_callB hf ra⟩
end

section
variable {K : PySem.W.Frag}
theorem rps1 {F : Hp} {vs : List V} {d : D} (r : Rps K F vs [d]) : ∃ v, vs = [v] ∧ Rp K F v d := by
  cases r with
  | cons h1 h2 => cases h2; exact ⟨_, rfl, h1⟩
theorem rps2 {F : Hp} {vs : List V} {d e : D} (r : Rps K F vs [d, e]) : ∃ v u, vs = [v, u] ∧ Rp K F v d ∧ Rp K F u e := by
  cases r with
  | cons h1 h2 => cases h2 with
    | cons h3 h4 => cases h4; exact ⟨_, _, rfl, h1, h3⟩
def dLen : List D → Option D
  | [.list xs] => some (.int xs.length)
  | [.tuple xs] => some (.int xs.length)
  | [.str x] => some (.int x.length)
  | _ => none
theorem rd_len : RdC K (fun xs H Q => ∃ x n, xs = [x] ∧ LenV K x H n ∧ Q (.int n) H) dLen := by
  intro A F H S σ xs ds z Q k r h post
  unfold dLen at h
  split at h <;> cases h
  · obtain ⟨v, rfl, rv⟩ := rps1 r
    obtain ⟨a, vs, rfl, h1, h2, _⟩ := rp_list_inv rv
    exact ⟨_, _, rfl, .inl ⟨vs, SqL.of (k.sub.same _ _ h1), h2.length.symm⟩, post F H _ (SameT.refl F) k (.int _)⟩
  · obtain ⟨v, rfl, rv⟩ := rps1 r
    obtain ⟨a, vs, rfl, h1, h2, _⟩ := rp_tup_inv rv
    exact ⟨_, _, rfl, .inr ⟨vs, sqT_same k.sub.same.t h1, h2.length.symm⟩, post F H _ (SameT.refl F) k (.int _)⟩
  · obtain ⟨v, rfl, rv⟩ := rps1 r
    obtain ⟨rfl, hz⟩ := rp_str_inv rv
    exact ⟨_, _, rfl, ⟨hz, rfl⟩, post F H _ (SameT.refl F) k (.int _)⟩
def dInt : List D → Option D
  | [.int i] => some (.int i)
  | [.bool b] => some (.int (if b then 1 else 0))
  | _ => none
theorem rd_int : RdC K (fun xs H Q => (∃ i, xs = [.int i] ∧ Q (.int i) H) ∨ ∃ k, xs = [.bl k] ∧ Q (.int (if k then 1 else 0)) H) dInt := by
  intro A F H S σ xs ds z Q k r h post
  unfold dInt at h
  split at h <;> cases h
  · obtain ⟨v, rfl, rv⟩ := rps1 r
    cases rp_int_inv rv
    exact .inl ⟨_, rfl, post F H _ (SameT.refl F) k (.int _)⟩
  · obtain ⟨v, rfl, rv⟩ := rps1 r
    cases rp_bool_inv rv
    exact .inr ⟨_, rfl, post F H _ (SameT.refl F) k (.int _)⟩
def dAbs : List D → Option D
  | [.int i] => some (.int (if i < 0 then -i else i))
  | _ => none
theorem rd_abs : RdC K (fun xs H Q => ∃ i, xs = [.int i] ∧ Q (.int (if i < 0 then -i else i)) H) dAbs := by
  intro A F H S σ xs ds z Q k r h post
  unfold dAbs at h
  split at h <;> cases h
  obtain ⟨v, rfl, rv⟩ := rps1 r
  cases rp_int_inv rv
  exact ⟨_, rfl, post F H _ (SameT.refl F) k (.int _)⟩
def dMax2 : List D → Option D
  | [.int i, .int j] => some (.int (if j > i then j else i))
  | _ => none
def dMin2 : List D → Option D
  | [.int i, .int j] => some (.int (if j < i then j else i))
  | _ => none
theorem rd_min2 : RdC K (fun xs H Q => ∃ i j, xs = [.int i, .int j] ∧ Q (.int (if j < i then j else i)) H) dMin2 := by
  intro A F H S σ xs ds z Q k r h post
  unfold dMin2 at h
  split at h <;> cases h
  obtain ⟨v, u, rfl, rv, ru⟩ := rps2 r
  cases rp_int_inv rv; cases rp_int_inv ru
  exact ⟨_, _, rfl, post F H _ (SameT.refl F) k (.int _)⟩
def dList : List D → Option D
  | [.list xs] => some (.list xs)
  | [.tuple xs] => some (.list xs)
  | _ => none
def dTuple : List D → Option D
  | [.list xs] => some (.tuple xs)
  | [.tuple xs] => some (.tuple xs)
  | _ => none
theorem rd_tuple : RdC K (fun xs H Q => ∃ p ys, xs = [.ref p] ∧ ((SqL K H p ys ∧ ∀ l, H l = none → Q (.ref l) (upd H l (.tup ys))) ∨ (SqT K H p ys ∧ Q (.ref p) H))) dTuple := by
  intro A F H S σ xs ds z Q k r h post
  unfold dTuple at h
  split at h <;> cases h
  · obtain ⟨v, rfl, rv⟩ := rps1 r
    obtain ⟨a, vs, rfl, h1, h2, h3⟩ := rp_list_inv rv
    refine ⟨_, _, rfl, .inl ⟨SqL.of (k.sub.same _ _ h1), fun l hl => ?_⟩⟩
    obtain ⟨s1, k1, r1⟩ := k.newTup hl h2 h3
    exact post _ _ _ s1 k1 r1
  · obtain ⟨v, rfl, rv⟩ := rps1 r
    obtain ⟨a, vs, rfl, h1, h2, h3⟩ := rp_tup_inv rv
    exact ⟨_, _, rfl, .inr ⟨sqT_same k.sub.same.t h1, post F H _ (SameT.refl F) k rv⟩⟩
/-- all items are truths -/
def allBools : List D → Option (List Bool)
  | [] => some []
  | .bool b :: ds => (allBools ds).bind fun bs => some (b :: bs)
  | _ => none
theorem allBools_map : ∀ {ds : List D} {bs : List Bool}, allBools ds = some bs → ds = bs.map .bool
  | [], _, h => by cases h; rfl
  | .bool b :: ds, _, h => by
    obtain ⟨bs, h1, h2⟩ := bind_inv h
    cases h2
    rw [List.map_cons, allBools_map h1]
  | .none :: _, _, h => by simp [allBools] at h
  | .int _ :: _, _, h => by simp [allBools] at h
  | .str _ :: _, _, h => by simp [allBools] at h
  | .list _ :: _, _, h => by simp [allBools] at h
  | .tuple _ :: _, _, h => by simp [allBools] at h
  | .dict _ :: _, _, h => by simp [allBools] at h
theorem rps_bools {F : Hp} : ∀ {vs : List V} {bs : List Bool}, Rps K F vs (bs.map .bool) → vs = bs.map V.bl
  | _, [], h => by cases h; rfl
  | _, b :: bs, h => by
    cases h with
    | cons h1 h2 => rw [rp_bool_inv h1, rps_bools h2]; rfl
def dAll : List D → Option D
  | [.list xs] => (allBools xs).bind fun bs => some (.bool (bs.all id))
  | _ => none
def dAny : List D → Option D
  | [.list xs] => (allBools xs).bind fun bs => some (.bool (bs.any id))
  | _ => none
theorem rd_all : RdC K (rAll K) dAll := by
  intro A F H S σ xs ds z Q k r h post
  unfold dAll at h
  split at h
  · obtain ⟨bs, h1, h2⟩ := bind_inv h
    cases h2
    obtain ⟨v, rfl, rv⟩ := rps1 r
    obtain ⟨a, vs, rfl, g1, g2, g3⟩ := rp_list_inv rv
    rw [allBools_map h1] at g2
    rw [rps_bools g2] at g1
    exact ⟨a, bs, rfl, SqL.of (k.sub.same _ _ g1), post F H _ (SameT.refl F) k (.bl _)⟩
  · cases h
end
section
variable {X : Cx} {pos p p2 : Pos} {e : Expr} {es : List Expr} {gs : M (List D)}
theorem e_len (hm : X.mg "len" = none) (ha : GA X [e] gs) (hg : Gl X "len" := by rfl) (he : starEach [e] X.env = (false, eval e X.env) :: starEach [] X.env := by rfl) : GE X (.Call (.Name "len" p) [e] [] pos) (gCall dLen gs) :=
  e_callB call_len rd_len hm PySem.boot_len ha hg (he := he) (hpl := by rfl)
theorem e_intOf (hm : X.mg "int" = none) (ha : GA X [e] gs) (hg : Gl X "int" := by rfl) (he : starEach [e] X.env = (false, eval e X.env) :: starEach [] X.env := by rfl) : GE X (.Call (.Name "int" p) [e] [] pos) (gCall dInt gs) :=
  e_callTy call_int1 rd_int hm (by decide +kernel) ha hg (he := he) (hpl := by rfl)
theorem e_abs (hm : X.mg "abs" = none) (ha : GA X [e] gs) (hg : Gl X "abs" := by rfl) (he : starEach [e] X.env = (false, eval e X.env) :: starEach [] X.env := by rfl) : GE X (.Call (.Name "abs" p) [e] [] pos) (gCall dAbs gs) :=
  e_callB call_abs rd_abs hm (by decide +kernel) ha hg (he := he) (hpl := by rfl)
theorem e_tuple (hm : X.mg "tuple" = none) (ha : GA X [e] gs) (hg : Gl X "tuple" := by rfl) (he : starEach [e] X.env = (false, eval e X.env) :: starEach [] X.env := by rfl) : GE X (.Call (.Name "tuple" p) [e] [] pos) (gCall dTuple gs) :=
  e_callTy call_tuple_of rd_tuple hm (by decide +kernel) ha hg (he := he) (hpl := by rfl)
theorem e_all (hm : X.mg "all" = none) (ha : GA X [e] gs) (hc : X.calm = true := by rfl) (hg : Gl X "all" := by rfl) (he : starEach [e] X.env = (false, eval e X.env) :: starEach [] X.env := by rfl) : GE X (.Call (.Name "all" p) [e] [] pos) (gCall dAll gs) :=
  e_callB (cr_all hc) rd_all hm (by decide +kernel) ha hg (he := he) (hpl := by rfl)
variable {e2 : Expr}
theorem e_min2 (hm : X.mg "min" = none) (ha : GA X [e, e2] gs) (hc : X.calm = true := by rfl) (hg : Gl X "min" := by rfl) (he : starEach [e, e2] X.env = (false, eval e X.env) :: starEach [e2] X.env := by rfl) (hpl : (backTo pos (starEach [e2] X.env)).any (·.1) = false := by rfl) :
    GE X (.Call (.Name "min" p) [e, e2] [] pos) (gCall dMin2 gs) := e_callB (call_min2 hc) rd_min2 hm (by decide +kernel) ha hg (he := he) (hpl := hpl)
end

/-! ### isinstance -/
def dTy : D → String
  | .none => "NoneType"
  | .bool _ => "bool"
  | .int _ => "int"
  | .str _ => "str"
  | .list _ => "list"
  | .tuple _ => "tuple"
  | .dict _ => "dict"
def isT (T : String) (d : D) : Bool := (dTy d == T) || (T == "int" && dTy d == "bool")
theorem kit_int (d : D) : kitB (dTy d) "int" = some (isT "int" d) := by cases d <;> simp only [dTy, isT] <;> decide +kernel
theorem kit_bool (d : D) : kitB (dTy d) "bool" = some (isT "bool" d) := by cases d <;> simp only [dTy, isT] <;> decide +kernel
theorem kit_str (d : D) : kitB (dTy d) "str" = some (isT "str" d) := by cases d <;> simp only [dTy, isT] <;> decide +kernel
theorem kit_list (d : D) : kitB (dTy d) "list" = some (isT "list" d) := by cases d <;> simp only [dTy, isT] <;> decide +kernel
theorem kit_tuple (d : D) : kitB (dTy d) "tuple" = some (isT "tuple" d) := by cases d <;> simp only [dTy, isT] <;> decide +kernel
def TyE (K : PySem.W.Frag) (H : Hp) (v : V) (t : Value) : Prop := TyX K H v t ∨ ∃ a, v = .ref a ∧ t = .type "dict" ∧ H a = some (dictO a)
theorem kit_ofE {X : Cx} {pins : List (Addr × Obj)} {σ : L2.St} {H : Hp} {s : Shared} {x : V} {u t : Value} (I : Inv X pins σ H s) (r : RelV x u) (ty : TyE X.K H x t) : ∃ P, PySem.W.KitX X.K u t P ∧ P s.heap ∧ u ≠ .builtin "__main__.__loader__#opaque" := by
  rcases ty with ty | ⟨a, rfl, rfl, h⟩
  · exact kit_of I r ty
  · cases r
    exact ⟨_, PySem.W.kitx_dict, (show ObjOk X.prog X.w H s.heap a (dictO a) from I.hok a _ h).1, (fun z => nomatch z)⟩
def rIsiE (K : PySem.W.Frag) : List V → Hp → VK → Prop := fun xs H Q => ∃ x c t u b, xs = [x, c] ∧ ClsV c u ∧ TyE K H x t ∧ PySem.W.kitOne K t u = some b ∧ Q (.bl b) H
theorem call_isiE {X : Cx} : CallR X (.builtin "isinstance") (rIsiE X.K) := by
  intro pins s σ H xs us Q I r ⟨x, c, t, u, b, e0, k, ty, e, q⟩
  subst e0
  obtain ⟨u1, u2, rfl, r1, r2⟩ := L2.vals2 r
  have e2 := ClsV.eq k r2
  subst e2
  obtain ⟨P, Z, p, hx⟩ := kit_ofE I r1 ty
  exact PySem.W.kia_one Z I.kIn p e hx fun tk => ⟨.bl b, H, I.tok tk, rfl, q⟩
def rIsiTE (K : PySem.W.Frag) : List V → Hp → VK → Prop := fun xs H Q => ∃ x tp cs t us b, xs = [x, .ref tp] ∧ H tp = some (.tup cs) ∧ Paired ClsV cs us ∧ TyE K H x t ∧ PySem.W.kitAny K t us = some b ∧ Q (.bl b) H
theorem cls_vals : ∀ {cs : List V} {us its : List Value}, Paired ClsV cs us → Vals cs its → its = us
  | [], _, _, .nil, .nil => rfl
  | _ :: _, _, _, .cons h1 h2, .cons g1 g2 => by rw [cls_vals h2 g2, ClsV.eq h1 g1]
theorem call_isiTE {X : Cx} : CallR X (.builtin "isinstance") (rIsiTE X.K) := by
  intro pins s σ H xs us Q I r ⟨x, tp, cs, t, ws, b, e0, hT, k, ty, e, q⟩
  subst e0
  obtain ⟨u1, u2, rfl, r1, r2⟩ := L2.vals2 r
  cases r2
  obtain ⟨P, Z, p, hx⟩ := kit_ofE I r1 ty
  obtain ⟨_, its, rv, ot, t1, t2, n, t3⟩ := (show ObjOk X.prog X.w H s.heap tp (.tup cs) from I.hok tp _ hT)
  have hi := cls_vals k rv
  subst hi
  obtain ⟨oc, od, oda, osl⟩ := ot
  dsimp only at t2 t3
  subst t2 t3
  exact PySem.W.kia_tup Z I.kIn p t1 e hx fun tk => ⟨.bl b, H, I.tok tk, rfl, q⟩
theorem rp_ty {K : PySem.W.Frag} {F H : Hp} {v : V} {d : D} (s : SameT F H) (r : Rp K F v d) : TyE K H v (.type (dTy d)) := by
  cases r with
  | non => exact .inl (.base .non)
  | bl b => exact .inl (.base (.bl b))
  | int i => exact .inl (.base (.int i))
  | str _ => exact .inl (.base (.str _))
  | lst h1 _ _ => exact .inl (.base (.lst (s.old _ _ h1 trivial)))
  | tup h1 _ _ => exact .inl (.base (.tup (s.old _ _ h1 trivial)))
  | dcT h _ => exact .inl (.base (.dT (s.old _ _ h trivial)))
  | dct h _ _ =>
    rcases h with ⟨es, h⟩ | ⟨es, h⟩ | h
    · exact .inl (.base (.dK (s.old _ _ h trivial)))
    · exact .inl (.base (.dT (s.old _ _ h trivial)))
    · exact .inr ⟨_, rfl, rfl, s.old _ _ h trivial⟩
section
variable {X : Cx} {pos p p2 p3 p4 : Pos} {e : Expr} {g : M D} {x y : Str} {T U : String}
def gIsi (T : String) (g : M D) : M D := fun S => (g S).bind fun p => some (.bool (isT T p.1), p.2)
def gIsi2 (T U : String) (g : M D) : M D := fun S => (g S).bind fun p => some (.bool (isT T p.1 || isT U p.1), p.2)
theorem e_isi (hm : X.mg "isinstance" = none) (hmx : X.mg x = none) (hv : bootBuiltins x = some (.type T)) (kt : ∀ d, kitB (dTy d) T = some (isT T d)) (ha : GE X e g) (hg : Gl X "isinstance" := by rfl) (hgx : Gl X x := by rfl)
    (hnx : x ≠ "__name__" := by decide) (hdx : (x == ("__debug__" : Str)) = false := by decide)
    (he : starEach [e, .Name x p2] X.env = (false, eval e X.env) :: starEach [.Name x p2] X.env := by rfl) (he2 : starEach [.Name x p2] X.env = (false, eval (.Name x p2) X.env) :: starEach [] X.env := by rfl)
    (hpl : (backTo pos (starEach [.Name x p2] X.env)).any (·.1) = false := by rfl) :
    GE X (.Call (.Name "isinstance" p) [e, .Name x p2] [] pos) (gIsi T g) := by
  obtain ⟨t, pa, ra⟩ := ha.ex
  refine ⟨_, pe_callB call_isiE hg hm (by decide +kernel) (pa_cons pa (pa_cons (pe_bltn (v := .ty T) hgx hmx hv rfl hnx hdx) pa_nil he2) he) (by decide) (by decide) he hpl, fun A F H S σ d S' Q k h post => ?_⟩
  obtain ⟨⟨d1, S1⟩, h1, h⟩ := bind_inv h
  cases h
  refine ra A F H S σ d1 _ _ k h1 fun A1 F1 H1 v p1 s1 k1 r1 => ?_
  exact ⟨v, .ty T, _, _, _, rfl, .ty T, rp_ty k1.sub.same.t r1, kit_ty (kt d1), post A1 F1 H1 _ p1 s1 k1 (.bl _)⟩
theorem e_isi2 {kx} (hm : X.mg "isinstance" = none) (hmx : X.mg x = none) (hv : bootBuiltins x = some (.type T)) (kt : ∀ d, kitB (dTy d) T = some (isT T d)) (hmy : X.mg y = none) (hw : bootBuiltins y = some (.type U)) (ku : ∀ d, kitB (dTy d) U = some (isT U d))
    (ha : GE X e g) (hg : Gl X "isinstance" := by rfl) (hgx : Gl X x := by rfl) (hgy : Gl X y := by rfl)
    (hnx : x ≠ "__name__" := by decide) (hdx : (x == ("__debug__" : Str)) = false := by decide) (hny : y ≠ "__name__" := by decide) (hdy : (y == ("__debug__" : Str)) = false := by decide)
    (he : starEach [e, .Tuple [.Name x p2, .Name y p3] kx p4] X.env = (false, eval e X.env) :: starEach [.Tuple [.Name x p2, .Name y p3] kx p4] X.env := by rfl)
    (he2 : starEach [.Tuple [.Name x p2, .Name y p3] kx p4] X.env = (false, eval (.Tuple [.Name x p2, .Name y p3] kx p4) X.env) :: starEach [] X.env := by rfl)
    (he3 : starEach [.Name x p2, .Name y p3] X.env = (false, eval (.Name x p2) X.env) :: starEach [.Name y p3] X.env := by rfl)
    (he4 : starEach [.Name y p3] X.env = (false, eval (.Name y p3) X.env) :: starEach [] X.env := by rfl)
    (hpl : (backTo pos (starEach [.Tuple [.Name x p2, .Name y p3] kx p4] X.env)).any (·.1) = false := by rfl) :
    GE X (.Call (.Name "isinstance" p) [e, .Tuple [.Name x p2, .Name y p3] kx p4] [] pos) (gIsi2 T U g) := by
  obtain ⟨t, pa, ra⟩ := ha.ex
  refine ⟨_, pe_callB call_isiTE hg hm (by decide +kernel) (pa_cons pa (pa_cons (pe_tup (pa_cons (pe_bltn (v := .ty T) hgx hmx hv rfl hnx hdx) (pa_cons (pe_bltn (v := .ty U) hgy hmy hw rfl hny hdy) pa_nil he4) he3)) pa_nil he2) he) (by decide) (by decide) he hpl, fun A F H S σ d S' Q k h post => ?_⟩
  obtain ⟨⟨d1, S1⟩, h1, h⟩ := bind_inv h
  cases h
  refine ra A F H S σ d1 _ _ k h1 fun A1 F1 H1 v p1 s1 k1 r1 => ?_
  refine ⟨by show 2 ≤ sizeLine; decide, fun q hq => ?_⟩
  have k2 := k1.laid (o := .tup [.ty T, .ty U]) hq
  have s2 : SameT F1 (upd F1 q (.tup [.ty T, .ty U])) := same_upd (k1.sub.none hq)
  refine ⟨v, q, _, _, _, _, rfl, upd_same, .cons (.ty T) (.cons (.ty U) .nil), rp_ty k2.sub.same.t (r1.mono s2 _ _), ?_, post A1 _ _ _ p1 (s1.trans s2) k2 (.bl _)⟩
  refine kitAny_cons (kit_ty (kt d1)) (fun e1 => ?_) (fun e1 => by rw [e1]; rfl)
  rw [e1]
  exact kitAny_cons (kit_ty (ku d1)) (fun e2 => by rw [e2]; exact kitAny_nil) (fun e2 => by rw [e2]; rfl)
end

/-! ### the calls of the text's own defs -/
/-- a def that writes nothing that was there: its value by data -/
def spF (K : PySem.W.Frag) (n : Nat) (f : List D → Option D) : Sp := fun vs H Q _ => ∃ ds z, ds.length = n ∧ Rps K H vs ds ∧ f ds = some z ∧ LamX.Tabs TabsC.T H ∧ ∀ H' v, SameT H H' → Rp K H' v z → Q v H'
theorem spF_len {K : PySem.W.Frag} {n : Nat} {f : List D → Option D} {ps : List Str} (h : ps.length = n) : ∀ vs H Q E, spF K n f vs H Q E → vs.length = ps.length := by
  intro vs H Q E ⟨ds, z, e, r, _⟩
  rw [r.length, e, h]
theorem same_mix {G H G' : Hp} (lost : ∀ b o, H b = some o → G b = none → G' b = none) : Same G' (mixH G H G') := fun b o e => by
  cases q : G b with
  | some u => rw [mix_held q]; exact e
  | none =>
    cases r : H b with
    | none => rw [mix_free r]; exact e
    | some u => rw [lost b u r q] at e; cases e
theorem Ok.mix {K : PySem.W.Frag} {A : List Addr} {F H G' : Hp} {S : Sx} {σ : L2.St} (k : Ok K A F H S σ) (s : SameT F G') (lost : ∀ b o, H b = some o → F b = none → G' b = none) : Ok K A G' (mixH F H G') S σ := by
  refine k.grow ⟨same_mix lost, fun b o e n => ?_⟩ s (fun a ha o e => ?_) fun a ha e => ?_
  · cases q : F b with
    | some u => rw [mix_held q, n] at e; cases e
    | none =>
      cases r : H b with
      | none => rw [mix_free r, n] at e; cases e
      | some u => rw [mix_lost q r] at e; cases e; exact k.sub.loose b _ r q
  · cases q : F a with
    | some u =>
      rw [mix_held q]
      have e2 := k.sub.same a u q
      rw [e] at e2; cases e2
      obtain ⟨_, ho, lo⟩ := k.trk a ha
      rw [e] at ho; cases ho
      exact s.old a _ q lo.nt
    | none => exact mix_lost q e
  · obtain ⟨o, ho, _⟩ := k.trk a ha
    exact lost a o ho e
def gCallF (n : Nat) (f : List D → Option D) (g : M (List D)) : M D := fun S => (g S).bind fun p => if p.1.length = n then (f p.1).bind fun z => some (z, p.2) else none
section
variable {X : Cx} {pos p p2 : Pos} {x : Str} {e : Expr} {es : List Expr} {gs : M (List D)} {f : List D → Option D} {CX : CXT} {k n : Nat} {fa : Addr} {fd : FuncData} {ps : List Str} {E : XK}
theorem e_call (F : FnOk X.prog X.w X.K X.mg X.base CX k fa fd ps (spF X.K n f)) (hr : Room k X.A) (hm : X.mg x = some (.ref fa)) (hk : PySem.W.keepIn X.K (.ref fa) = true) (hb : L2.Binds X.K fd ps []) (hx : Passes CX X E) (ha : GA X (e :: es) gs)
    (hg : Gl X x := by rfl) (hdb : (x == ("__debug__" : Str)) = false := by decide) (he : starEach (e :: es) X.env = (false, eval e X.env) :: starEach es X.env := by rfl) (hpl : (backTo pos (starEach es X.env)).any (·.1) = false := by rfl) :
    GE X (.Call (.Name x p) (e :: es) [] pos) (gCallF n f gs) := by
  obtain ⟨t, pa, ra⟩ := ha.ex
  refine ⟨_, pe_callF F hr hg hm hk hb .nil hx pa hdb he hpl, fun A F H S σ d S' Q k h post => ?_⟩
  obtain ⟨⟨ds, S1⟩, h1, h⟩ := bind_inv h
  simp only at h
  split at h
  · rename_i hn
    obtain ⟨z, h2, h⟩ := bind_inv h
    cases h
    refine ra A F H S σ ds _ _ k h1 fun A1 F1 H1 vs p1 s1 k1 r1 => ⟨F1, k1.sub, ds, _, hn, by rw [List.append_nil]; exact r1, h2, k1.tab, fun G' v sm rv => ⟨fun b xs q => sm.old b _ q trivial, fun lost => ?_⟩⟩
    exact post A1 G' _ v p1 (s1.trans sm) (k1.mix sm lost) rv
  · cases h
/-- a def that writes one list that is handed in, the first argument -/
def spIO (K : PySem.W.Frag) (n : Nat) (f : List D → List D → Option (D × List D)) : Sp := fun vs H Q _ => ∃ (a : Addr) (xs : List V) (rest : List V) (F : Hp) (cs ds : List D) (r : D) (cs' : List D), vs = .ref a :: rest ∧ F a = none ∧ H = upd F a (.lst xs) ∧ cs.length ≤ sizeLine ∧
  Rps K F xs cs ∧ Rps K F rest ds ∧ ds.length = n ∧ f cs ds = some (r, cs') ∧ LamX.Tabs TabsC.T F ∧ ∀ F' xs' v, SameT F F' → F' a = none → Rps K F' xs' cs' → cs'.length ≤ sizeLine → Rp K F' v r → Q v (upd F' a (.lst xs'))
theorem spIO_len {K : PySem.W.Frag} {n : Nat} {f : List D → List D → Option (D × List D)} {ps : List Str} (h : ps.length = n + 1) : ∀ vs H Q E, spIO K n f vs H Q E → vs.length = ps.length := by
  intro vs H Q E ⟨a, xs, rest, F, cs, ds, r, cs', e, _, _, _, _, hr, hn, _⟩
  rw [e, List.length_cons, hr.length, hn, h]
def gIO (i n : Nat) (f : List D → List D → Option (D × List D)) (g : M (List D)) : M D := fun S => match S.sl[i]? with
  | some (some (.own j)) => (g S).bind fun p => match p.2.os[j]? with
    | some (some (.lst cs)) => if p.1.length = n then (f cs p.1).bind fun z => some (z.1, ⟨p.2.sl, p.2.os.set j (some (.lst z.2))⟩) else none
    | _ => none
  | _ => none
theorem prefix_at {α : Type} {A B : List α} {j : Nat} {a : α} (p : A <+: B) (h : A[j]? = some a) : B[j]? = some a := by
  obtain ⟨C, rfl⟩ := p
  rw [List.getElem?_append_left (List.getElem?_eq_some_iff.mp h).1]; exact h
theorem e_callIO {f : List D → List D → Option (D × List D)} {y : Str} {py : Pos} (i : Nat) (F : FnOk X.prog X.w X.K X.mg X.base CX k fa fd ps (spIO X.K n f)) (hr : Room k X.A) (hm : X.mg x = some (.ref fa)) (hk : PySem.W.keepIn X.K (.ref fa) = true) (hb : L2.Binds X.K fd ps []) (hx : Passes CX X E) (ha : GA X es gs)
    (hN : X.N[i]? = some y := by rfl) (hv : Vis X.env.scope y := by first | exact Or.inl rfl | exact Or.inr (Or.inl rfl) | exact Or.inr (Or.inr rfl)) (hdy : (y == ("__debug__" : Str)) = false := by decide) (hcd : (y == ("__classdict__" : Str)) = false := by decide)
    (hg : Gl X x := by rfl) (hdb : (x == ("__debug__" : Str)) = false := by decide) (he : starEach (.Name y py :: es) X.env = (false, eval (.Name y py) X.env) :: starEach es X.env := by rfl) (hpl : (backTo pos (starEach es X.env)).any (·.1) = false := by rfl) :
    GE X (.Call (.Name x p) (.Name y py :: es) [] pos) (gIO i n f gs) := by
  obtain ⟨t, pa, ra⟩ := ha.ex
  refine ⟨_, pe_callF F hr hg hm hk hb .nil hx (pa_cons (pe_var hN hv hdy hcd) pa he) hdb he hpl, fun A F H S σ d S' Q k h post => ?_⟩
  unfold gIO at h
  split at h
  · rename_i j ej
    obtain ⟨⟨ds, S1⟩, h1, h⟩ := bind_inv h
    simp only at h
    split at h
    · rename_i cs ec
      split at h
      · rename_i hn
        obtain ⟨⟨r, cs'⟩, h2, h⟩ := bind_inv h
        cases h
        obtain ⟨a, ea, ev⟩ := k.oslot i j ej
        refine ⟨_, ev, ra A F H S σ ds S1 _ k h1 fun A1 F1 H1 vs p1 s1 k1 r1 => ?_⟩
        obtain ⟨a', ea', fa', xs, hxs, rxs, hz⟩ := k1.cell j _ ec
        rw [prefix_at p1 ea] at ea'; cases ea'
        have sub1 : Sub (upd F1 a (.lst xs)) H1 := ⟨fun b u q => by
            by_cases hb : b = a
            · subst hb; rw [upd_same] at q; cases q; exact hxs
            · rw [upd_ne hb] at q; exact k1.sub.same b u q, fun b u q n => by
            by_cases hb : b = a
            · subst hb; rw [upd_same] at n; cases n
            · rw [upd_ne hb] at n; exact k1.sub.loose b u q n⟩
        refine ⟨upd F1 a (.lst xs), sub1, a, xs, vs, F1, cs, ds, r, cs', by rw [List.append_nil], fa', rfl, hz, rxs, r1, hn, h2, k1.tab, fun F' xs' v sm fa2 rx hz' rv => ⟨fun b ys q => ?_, fun lost => ?_⟩⟩
        · by_cases hb : b = a
          · subst hb; rw [upd_same] at q; cases q
          · rw [upd_ne hb] at q ⊢; exact sm.old b _ q trivial
        · have lostF : ∀ b o, b ≠ a → H1 b = some o → F1 b = none → F' b = none := fun b o hb ho hf => by
            have := lost b o ho (by rw [upd_ne hb]; exact hf)
            rwa [upd_ne hb] at this
          have ma : mixH (upd F1 a (.lst xs)) H1 (upd F' a (.lst xs')) a = some (.lst xs') := by rw [mix_held upd_same, upd_same]
          have mb : ∀ b, b ≠ a → mixH (upd F1 a (.lst xs)) H1 (upd F' a (.lst xs')) b = mixH F1 H1 F' b := fun b hb => by
            unfold mixH
            rw [upd_ne hb, upd_ne hb]
          have km : Ok X.K A1 F' (upd (mixH F1 H1 F') a (.lst xs')) ⟨S1.sl, S1.os.set j (some (.lst cs'))⟩ σ := by
            have e1 : Ok X.K A1 F' (mixH F1 H1 F') S1 σ := by
              refine k1.mix sm fun b o ho hf => ?_
              by_cases hb : b = a
              · subst hb; exact fa2
              · exact lostF b o hb ho hf
            exact e1.cellSet ec (prefix_at p1 ea) trivial ⟨xs', upd_same, rx, hz'⟩
          have em : mixH (upd F1 a (.lst xs)) H1 (upd F' a (.lst xs')) = upd (mixH F1 H1 F') a (.lst xs') := by
            funext b
            by_cases hb : b = a
            · subst hb; rw [ma, upd_same]
            · rw [mb b hb, upd_ne hb]
          rw [em]
          exact post A1 F' _ v p1 (s1.trans sm) km rv
      · cases h
    · cases h
  · cases h
end
end Fu

set_option maxHeartbeats 4000000
namespace Fu
open PySem PySem.Spec PyProof.Rows L2 RZ
variable [TabsC]

/-! ### what is walked -/
/-- J yields the data ds, one by one, wherever F stands -/
structure Walk (K : PySem.W.Frag) (F : Hp) (J : It) (ds : List D) : Prop where
  stop : ∀ i H, SameT F H → ds.length ≤ i → J.stop i H
  go : ∀ i H, SameT F H → i < ds.length → J.go i H
  yld : ∀ (i : Nat) d H x H', SameT F H → ds[i]? = some d → J.yld i H x H' → (H' = H ∧ Rp K F x d) ∨ ∃ T vs es, x = .ref T ∧ H T = none ∧ H' = upd H T (.tup vs) ∧ d = .tuple es ∧ Rps K F vs es ∧ es.length ≤ sizeLine
def RdI (K : PySem.W.Frag) (t : TI) (g : M (List D)) : Prop := ∀ A F H S σ ds S' (R : It → Hp → Prop), Ok K A F H S σ → g S = some (ds, S') →
  (∀ A' F' H' J, A <+: A' → SameT F F' → Ok K A' F' H' S' σ → Walk K F' J ds → ds.length ≤ sizeLine → R J H') → t σ H R
structure GI (X : Cx) (tg iter : Expr) (g : M (List D)) : Prop where
  ex : ∃ t, PI X tg iter t ∧ RdI X.K t g
/-- .. of numbers alone: they stand in any heap -/
structure GI0 (X : Cx) (tg iter : Expr) (g : M (List D)) : Prop where
  ex : ∃ t, PI X tg iter t ∧ ∀ A F H S σ ds S' (R : It → Hp → Prop), Ok X.K A F H S σ → g S = some (ds, S') →
    (∀ A' F' H' J, A <+: A' → SameT F F' → Ok X.K A' F' H' S' σ → Walk X.K (fun _ => none) J ds → R J H') → t σ H R
theorem PI.or {X : Cx} {tg iter : Expr} {t u : TI} (h1 : PI X tg iter t) (h2 : PI X tg iter u) : PI X tg iter (fun σ H R => t σ H R ∨ u σ H R) :=
  ⟨fun pins s σ H R I h => h.elim (h1.run pins s σ H R I) (h2.run pins s σ H R I)⟩
section
variable {K : PySem.W.Frag} {F : Hp}
theorem walk_list {a : Addr} {vs : List V} {ds : List D} (h : F a = some (.lst vs)) (r : Rps K F vs ds) : Walk K F (Itl K a) ds where
  stop := fun i H s hi => ⟨vs, SqL.of (s.old _ _ h trivial), by rw [r.length]; exact hi⟩
  go := fun i H s hi => by
    obtain ⟨v, e, _⟩ := r.get (List.getElem?_eq_getElem hi)
    exact ⟨vs, v, SqL.of (s.old _ _ h trivial), e⟩
  yld := fun i d H x H' s hd y => by
    obtain ⟨e, y⟩ := y
    obtain ⟨v, ev, rv⟩ := r.get hd
    have := y vs (SqL.of (s.old _ _ h trivial))
    rw [ev] at this; cases this
    exact .inl ⟨e, rv⟩
theorem walk_tup {a : Addr} {vs : List V} {ds : List D} (h : SqT K F a vs) (r : Rps K F vs ds) : Walk K F (Itt K a) ds where
  stop := fun i H s hi => ⟨vs, sqT_same s h, by rw [r.length]; exact hi⟩
  go := fun i H s hi => by
    obtain ⟨v, e, _⟩ := r.get (List.getElem?_eq_getElem hi)
    exact ⟨vs, v, sqT_same s h, e⟩
  yld := fun i d H x H' s hd y => by
    obtain ⟨e, y⟩ := y
    obtain ⟨v, ev, rv⟩ := r.get hd
    have := y vs (sqT_same s h)
    rw [ev] at this; cases this
    exact .inl ⟨e, rv⟩
def chars (x : Str) : List D := x.cps.toList.map fun c => .str ⟨#[c]⟩
theorem walk_str (x : Str) : Walk K F (Its x) (chars x) where
  stop := fun i H s hi => by
    have : x.cps.size ≤ i := by simpa [chars] using hi
    exact this
  go := fun i H s hi => by
    have : i < x.cps.size := by simpa [chars] using hi
    exact this
  yld := fun i d H v H' s hd y => by
    obtain ⟨e, c, hc, rfl⟩ := y
    have h2 : x.cps.toList[i]? = some c := by rw [Array.getElem?_toList]; exact hc
    unfold chars at hd
    rw [List.getElem?_map, h2] at hd
    cases hd
    exact .inl ⟨e, .str (one_len c)⟩
def rng (lo : Int) (n : Nat) : List D := (List.range n).map fun i : Nat => .int (lo + (i : Int))
theorem walk_range (lo : Int) (n : Nat) : Walk K F (Itr lo n) (rng lo n) where
  stop := fun i H s hi => by
    have : n ≤ i := by simpa [rng] using hi
    exact this
  go := fun i H s hi => by
    have : i < n := by simpa [rng] using hi
    exact this
  yld := fun i d H v H' s hd y => by
    obtain ⟨e, rfl⟩ := y
    unfold rng at hd
    rw [List.getElem?_map] at hd
    obtain ⟨j, hj, rfl⟩ := Option.map_eq_some_iff.mp hd
    rw [List.getElem?_range (by
      have := (List.getElem?_eq_some_iff.mp hj).1
      simpa using this)] at hj
    cases hj
    exact .inl ⟨e, .int _⟩
def zipD : List D → List D → List D
  | x :: xs, y :: ys => .tuple [x, y] :: zipD xs ys
  | _, _ => []
theorem zipD_eq : ∀ xs ys : List D, zipD xs ys = (xs.zip ys).map fun p => .tuple [p.1, p.2]
  | x :: xs, y :: ys => by rw [zipD, zipD_eq xs ys]; rfl
  | [], _ => by simp [zipD]
  | _ :: _, [] => by simp [zipD]
theorem walk_zip {a b : Addr} {vs us : List V} {xs ys : List D} (h : F a = some (.lst vs)) (g : F b = some (.lst us)) (r : Rps K F vs xs) (q : Rps K F us ys) : Walk K F (Itz K a b) (zipD xs ys) where
  stop := fun i H s hi => by
    refine ⟨vs, us, SqL.of (s.old _ _ h trivial), SqL.of (s.old _ _ g trivial), ?_⟩
    rw [zipD_eq, List.length_map, List.length_zip] at hi
    rw [r.length, q.length]
    omega
  go := fun i H s hi => by
    rw [zipD_eq, List.length_map, List.length_zip] at hi
    obtain ⟨v, e, _⟩ := r.get (List.getElem?_eq_getElem (show i < xs.length by omega))
    obtain ⟨u, e2, _⟩ := q.get (List.getElem?_eq_getElem (show i < ys.length by omega))
    exact ⟨vs, us, v, u, SqL.of (s.old _ _ h trivial), SqL.of (s.old _ _ g trivial), e, e2⟩
  yld := fun i d H x H' s hd y => by
    obtain ⟨T, v, u, rfl, hT, rfl, e1, e2⟩ := y
    rw [zipD_eq, List.getElem?_map] at hd
    obtain ⟨⟨d1, d2⟩, hz, rfl⟩ := Option.map_eq_some_iff.mp hd
    rw [List.getElem?_zip_eq_some] at hz
    obtain ⟨v', g1, r1⟩ := r.get hz.1
    obtain ⟨u', g2, r2⟩ := q.get hz.2
    have f1 := e1 vs (SqL.of (s.old _ _ h trivial))
    have f2 := e2 us (SqL.of (s.old _ _ g trivial))
    rw [g1] at f1; cases f1
    rw [g2] at f2; cases f2
    exact .inr ⟨T, _, _, rfl, hT, rfl, rfl, .cons r1 (.cons r2 .nil), by show 2 ≤ sizeLine; decide⟩
end
def itemsOf : D → Option (List D)
  | .list xs => some xs
  | .tuple xs => some xs
  | .str x => some (chars x)
  | _ => none
/-- the items of a list, a tuple, a text -/
def gItems (g : M D) : M (List D) := fun S => (g S).bind fun p => (itemsOf p.1).bind fun xs => some (xs, p.2)
section
variable {X : Cx} {tg e e2 e3 : Expr} {ge ge2 : M D} {pos p p2 : Pos} {gs : M (List D)}
theorem chars_len {x : Str} (h : x.length ≤ sizeLine) : (chars x).length ≤ sizeLine := by
  unfold chars
  rw [List.length_map, Array.length_toList]
  exact h
theorem i_any (h : GE X e ge) : GI X tg e (gItems ge) := by
  obtain ⟨t, pe, re⟩ := h.ex
  refine ⟨_, PI.or (pi_list pe) (PI.or (pi_tup pe) (pi_str pe)), fun A F H S σ ds S' R k e post => ?_⟩
  obtain ⟨⟨d, S1⟩, h1, e⟩ := bind_inv e
  obtain ⟨xs, h2, e⟩ := bind_inv e
  cases e
  cases d <;> simp only [itemsOf] at h2 <;> cases h2
  · refine .inr (.inr (re A F H S σ _ _ _ k h1 fun A1 F1 H1 v p1 s1 k1 r1 => ?_))
    obtain ⟨rfl, hz⟩ := rp_str_inv r1
    exact ⟨_, rfl, post A1 F1 H1 _ p1 s1 k1 (walk_str _) (chars_len hz)⟩
  · refine .inl (re A F H S σ _ _ _ k h1 fun A1 F1 H1 v p1 s1 k1 r1 => ?_)
    obtain ⟨a, vs, rfl, g1, g2, g3⟩ := rp_list_inv r1
    exact ⟨a, rfl, ⟨vs, SqL.of (k1.sub.same _ _ g1)⟩, post A1 F1 H1 _ p1 s1 k1 (walk_list g1 g2) g3⟩
  · refine .inr (.inl (re A F H S σ _ _ _ k h1 fun A1 F1 H1 v p1 s1 k1 r1 => ?_))
    obtain ⟨a, vs, rfl, g1, g2, g3⟩ := rp_tup_inv r1
    exact ⟨a, rfl, ⟨vs, sqT_same k1.sub.same.t g1⟩, post A1 F1 H1 _ p1 s1 k1 (walk_tup g1 g2) g3⟩
/-- range(n), range(a, b) -/
def gRng1 (g : M (List D)) : M (List D) := fun S => (g S).bind fun p => match p.1 with
  | [.int j] => if -(2 ^ 62) ≤ j ∧ j ≤ sizeLine then some (rng 0 j.toNat, p.2) else none
  | _ => none
def gRng2 (g : M (List D)) : M (List D) := fun S => (g S).bind fun p => match p.1 with
  | [.int i, .int j] => if -(2 ^ 32) ≤ i ∧ i ≤ 2 ^ 32 ∧ -(2 ^ 32) ≤ j ∧ j ≤ 2 ^ 32 ∧ j - i ≤ sizeLine then some (rng i (j - i).toNat, p.2) else none
  | _ => none
theorem rng_len (lo : Int) (n : Nat) : (rng lo n).length = n := by simp [rng]
theorem rps_int1 {K : PySem.W.Frag} {F : Hp} {vs : List V} {i : Int} (r : Rps K F vs [.int i]) : vs = [.int i] := by
  obtain ⟨v, rfl, q⟩ := rps1 r
  cases rp_int_inv q; rfl
theorem rps_int2 {K : PySem.W.Frag} {F : Hp} {vs : List V} {i j : Int} (r : Rps K F vs [.int i, .int j]) : vs = [.int i, .int j] := by
  obtain ⟨v, u, rfl, q, q2⟩ := rps2 r
  cases rp_int_inv q; cases rp_int_inv q2; rfl
theorem line_int : (sizeLine : Int) < 2 ^ 32 := by rw [sizeLine_eq]; decide
theorem rd_rng1 {K : PySem.W.Frag} {ta : TA} (ra : RdA K ta gs) : ∀ A F H S σ ds S' (R : It → Hp → Prop), Ok K A F H S σ → gRng1 gs S = some (ds, S') →
    (∀ A' F' H' J, A <+: A' → SameT F F' → Ok K A' F' H' S' σ → (∀ G, Walk K G J ds) → ds.length ≤ sizeLine → R J H') → iRng1 ta σ H R := by
  intro A F H S σ ds S' R k e post
  obtain ⟨⟨xs, S1⟩, h1, e⟩ := bind_inv e
  simp only at e
  split at e
  · split at e
    · rename_i j hj
      cases e
      refine ra A F H S σ _ _ _ k h1 fun A1 F1 H1 vs p1 s1 k1 r1 => ?_
      have hl := line_int
      exact ⟨j, rps_int1 r1, hj.1, by omega, post A1 F1 H1 _ p1 s1 k1 (fun G => walk_range 0 _) (by rw [rng_len]; omega)⟩
    · cases e
  · cases e
theorem rd_rng2 {K : PySem.W.Frag} {ta : TA} (ra : RdA K ta gs) : ∀ A F H S σ ds S' (R : It → Hp → Prop), Ok K A F H S σ → gRng2 gs S = some (ds, S') →
    (∀ A' F' H' J, A <+: A' → SameT F F' → Ok K A' F' H' S' σ → (∀ G, Walk K G J ds) → ds.length ≤ sizeLine → R J H') → iRng2 ta σ H R := by
  intro A F H S σ ds S' R k e post
  obtain ⟨⟨xs, S1⟩, h1, e⟩ := bind_inv e
  simp only at e
  split at e
  · split at e
    · rename_i i j hj
      cases e
      refine ra A F H S σ _ _ _ k h1 fun A1 F1 H1 vs p1 s1 k1 r1 => ?_
      have hl := line_int
      exact ⟨i, j, rps_int2 r1, by omega, post A1 F1 H1 _ p1 s1 k1 (fun G => walk_range i _) (by rw [rng_len]; omega)⟩
    · cases e
  · cases e
theorem i_range1 (hm : X.mg "range" = none) (ha : GA X [e] gs) (hg : Gl X "range" := by rfl) (hs : starEach [e] X.env = [(false, eval e X.env)] := by rfl) : GI X tg (.Call (.Name "range" p) [e] [] pos) (gRng1 gs) := by
  obtain ⟨t, pa, ra⟩ := ha.ex
  exact ⟨_, pi_range1 hg hm pa hs, fun A F H S σ ds S' R k e post => rd_rng1 ra A F H S σ ds S' R k e fun A1 F1 H1 J p1 s1 k1 w hz => post A1 F1 H1 J p1 s1 k1 (w _) hz⟩
theorem i0_range1 (hm : X.mg "range" = none) (ha : GA X [e] gs) (hg : Gl X "range" := by rfl) (hs : starEach [e] X.env = [(false, eval e X.env)] := by rfl) : GI0 X tg (.Call (.Name "range" p) [e] [] pos) (gRng1 gs) := by
  obtain ⟨t, pa, ra⟩ := ha.ex
  exact ⟨_, pi_range1 hg hm pa hs, fun A F H S σ ds S' R k e post => rd_rng1 ra A F H S σ ds S' R k e fun A1 F1 H1 J p1 s1 k1 w hz => post A1 F1 H1 J p1 s1 k1 (w _)⟩
theorem i_range2 (hm : X.mg "range" = none) (ha : GA X [e, e2] gs) (hg : Gl X "range" := by rfl) (hs : starEach [e, e2] X.env = [(false, eval e X.env), (false, eval e2 X.env)] := by rfl) (hs2 : starEach [e2] X.env = [(false, eval e2 X.env)] := by rfl) : GI X tg (.Call (.Name "range" p) [e, e2] [] pos) (gRng2 gs) := by
  obtain ⟨t, pa, ra⟩ := ha.ex
  exact ⟨_, pi_range2 hg hm pa hs hs2, fun A F H S σ ds S' R k e post => rd_rng2 ra A F H S σ ds S' R k e fun A1 F1 H1 J p1 s1 k1 w hz => post A1 F1 H1 J p1 s1 k1 (w _) hz⟩
/-- zip(xs, ys): both lists or both tuples -/
def gZip (g : M (List D)) : M (List D) := fun S => (g S).bind fun p => match p.1 with
  | [.list xs, .list ys] => some (zipD xs ys, p.2)
  | [.tuple xs, .tuple ys] => some (zipD xs ys, p.2)
  | _ => none
theorem zipD_len (xs ys : List D) : (zipD xs ys).length ≤ xs.length := by
  rw [zipD_eq, List.length_map, List.length_zip]
  omega
theorem walk_zipT {K : PySem.W.Frag} {F : Hp} {a b : Addr} {vs us : List V} {xs ys : List D} (h : SqT K F a vs) (g : SqT K F b us) (r : Rps K F vs xs) (q : Rps K F us ys) : Walk K F (ItzT K a b) (zipD xs ys) where
  stop := fun i H s hi => by
    refine ⟨vs, us, sqT_same s h, sqT_same s g, ?_⟩
    rw [zipD_eq, List.length_map, List.length_zip] at hi
    rw [r.length, q.length]
    omega
  go := fun i H s hi => by
    rw [zipD_eq, List.length_map, List.length_zip] at hi
    obtain ⟨v, e, _⟩ := r.get (List.getElem?_eq_getElem (show i < xs.length by omega))
    obtain ⟨u, e2, _⟩ := q.get (List.getElem?_eq_getElem (show i < ys.length by omega))
    exact ⟨vs, us, v, u, sqT_same s h, sqT_same s g, e, e2⟩
  yld := fun i d H x H' s hd y => by
    obtain ⟨T, v, u, rfl, hT, rfl, e1, e2⟩ := y
    rw [zipD_eq, List.getElem?_map] at hd
    obtain ⟨⟨d1, d2⟩, hz, rfl⟩ := Option.map_eq_some_iff.mp hd
    rw [List.getElem?_zip_eq_some] at hz
    obtain ⟨v', g1, r1⟩ := r.get hz.1
    obtain ⟨u', g2, r2⟩ := q.get hz.2
    have f1 := e1 vs (sqT_same s h)
    have f2 := e2 us (sqT_same s g)
    rw [g1] at f1; cases f1
    rw [g2] at f2; cases f2
    exact .inr ⟨T, _, _, rfl, hT, rfl, rfl, .cons r1 (.cons r2 .nil), by show 2 ≤ sizeLine; decide⟩
theorem i_zip {elts : List Expr} {kk : Nat} {tpos : Pos} (hm : X.mg "zip" = none) (ha : GA X [e, e2] gs) (hg : Gl X "zip" := by rfl) (hs : starEach [e, e2] X.env = (false, eval e X.env) :: starEach [e2] X.env := by rfl) (hpl : (backTo pos (starEach [e2] X.env)).any (·.1) = false := by rfl) :
    GI X (.Tuple elts kk tpos) (.Call (.Name "zip" p) [e, e2] [] pos) (gZip gs) := by
  obtain ⟨t, pa, ra⟩ := ha.ex
  refine ⟨_, pi_zipA hg hm pa hs hpl, fun A F H S σ ds S' R k e post => ?_⟩
  obtain ⟨⟨xs, S1⟩, h1, e⟩ := bind_inv e
  simp only at e
  split at e
  · cases e
    refine ra A F H S σ _ _ _ k h1 fun A1 F1 H1 vs p1 s1 k1 r1 => ?_
    obtain ⟨v, u, rfl, q1, q2⟩ := rps2 r1
    obtain ⟨a, ws, rfl, g1, g2, g3⟩ := rp_list_inv q1
    obtain ⟨b, us, rfl, f1, f2, f3⟩ := rp_list_inv q2
    exact ⟨a, b, ws, us, rfl, .inl ⟨SqL.of (k1.sub.same _ _ g1), SqL.of (k1.sub.same _ _ f1), post A1 F1 H1 _ p1 s1 k1 (walk_zip g1 f1 g2 f2) (Nat.le_trans (zipD_len _ _) g3)⟩⟩
  · cases e
    refine ra A F H S σ _ _ _ k h1 fun A1 F1 H1 vs p1 s1 k1 r1 => ?_
    obtain ⟨v, u, rfl, q1, q2⟩ := rps2 r1
    obtain ⟨a, ws, rfl, g1, g2, g3⟩ := rp_tup_inv q1
    obtain ⟨b, us, rfl, f1, f2, f3⟩ := rp_tup_inv q2
    exact ⟨a, b, ws, us, rfl, .inr ⟨sqT_same k1.sub.same.t g1, sqT_same k1.sub.same.t f1, post A1 F1 H1 _ p1 s1 k1 (walk_zipT g1 f1 g2 f2) (Nat.le_trans (zipD_len _ _) g3)⟩⟩
  · cases e
end

/-! ### targets: names, tuples of them -/
def RdG (K : PySem.W.Frag) (tgt : List Nat) (t : TG) (g : D → Sx → Option Sx) : Prop := ∀ A F H S σ v d S' (Q : L2.St → Hp → Prop), Ok K A F H S σ → Rp K F v d → g d S = some S' →
  (∀ A' F' H' σ', A <+: A' → SameT F F' → Ok K A' F' H' S' σ' → (∀ vs, (∀ i ∈ tgt, i ∈ vs) → wipe σ' vs = wipe σ vs) → Q σ' H') → t v σ H Q
def RdGs (K : PySem.W.Frag) (tgt : List Nat) (t : TGs) (g : List D → Sx → Option Sx) : Prop := ∀ A F H S σ vs ds S' (Q : L2.St → Hp → Prop), Ok K A F H S σ → Rps K F vs ds → g ds S = some S' →
  (∀ A' F' H' σ', A <+: A' → SameT F F' → Ok K A' F' H' S' σ' → (∀ vs, (∀ i ∈ tgt, i ∈ vs) → wipe σ' vs = wipe σ vs) → Q σ' H') → t vs σ H Q
structure GG (X : Cx) (tgt : List Nat) (e : Expr) (g : D → Sx → Option Sx) : Prop where
  ex : ∃ t, PG X e t ∧ RdG X.K tgt t g
structure GGs (X : Cx) (tgt : List Nat) (es : List Expr) (g : List D → Sx → Option Sx) : Prop where
  ex : ∃ t, PGs X es t ∧ RdGs X.K tgt t g
def sName (i : Nat) : D → Sx → Option Sx := fun d S => some ⟨S.sl.set i (some (.dat d)), S.os⟩
def sNil : List D → Sx → Option Sx := fun ds S => match ds with
  | [] => some S
  | _ => none
def sCons (g : D → Sx → Option Sx) (gs : List D → Sx → Option Sx) : List D → Sx → Option Sx := fun ds S => match ds with
  | d :: ds => (g d S).bind fun S1 => gs ds S1
  | [] => none
def sTup (n : Nat) (gs : List D → Sx → Option Sx) : D → Sx → Option Sx := fun d S => match d with
  | .tuple ds => if ds.length = n then gs ds S else none
  | _ => none
theorem wipe_set {σ : L2.St} {i : Nat} {x : Option V} : ∀ {vs : List Nat}, i ∈ vs → wipe (σ.set i x) vs = wipe σ vs
  | v :: vs, h => by
    unfold wipe
    by_cases hv : i = v
    · subst hv
      by_cases hm : i ∈ vs
      · rw [wipe_set hm]
      · have comm : ∀ ws : List Nat, i ∉ ws → wipe (σ.set i x) ws = (wipe σ ws).set i x := by
          intro ws
          induction ws with
          | nil => intro _; rfl
          | cons w ws ih =>
            intro hn
            simp only [List.mem_cons, not_or] at hn
            unfold wipe
            rw [ih hn.2, List.set_comm _ _ hn.1]
        rw [comm vs hm, List.set_set]
    · rcases List.mem_cons.mp h with e | h
      · exact absurd e hv
      · rw [wipe_set h]
section
variable {X : Cx} {pos : Pos} {e : Expr} {es : List Expr} {n : Nat} {tg ts : List Nat} {g : D → Sx → Option Sx} {gs : List D → Sx → Option Sx}
theorem g_name (i : Nat) {x : Str} (hN : X.N.Nodup) (hx : Loc X.env.scope x := by first | exact Or.inl rfl | exact Or.inr rfl) (hi : X.N[i]? = some x := by rfl) (hf : X.fn x = true ∨ X.env.scope.names.lookup x = some .local := by first | exact .inl rfl | exact .inr rfl | assumption) : GG X [i] (.Name x pos) (sName i) :=
  ⟨_, pg_name hN hi hx hf, fun A F H S σ v d S' Q k r e post => by
    cases e
    exact post A F H _ (List.prefix_refl _) (SameT.refl F) (k.setDat r) fun vs h => wipe_set (h i (by simp))⟩
theorem gs_nil : GGs X [] [] sNil := ⟨_, pgs_nil, fun A F H S σ vs ds S' Q k r e post => by
  cases ds with
  | cons _ _ => cases e
  | nil => cases e; cases r; exact ⟨rfl, post A F H σ (List.prefix_refl _) (SameT.refl F) k fun _ _ => rfl⟩⟩
theorem gs_cons (h1 : GG X tg e g) (h2 : GGs X ts es gs) (hs : (assignEach (e :: es) X.env).map (·.2) = assign e X.env :: (assignEach es X.env).map (·.2) := by rfl) : GGs X (tg ++ ts) (e :: es) (sCons g gs) := by
  obtain ⟨t, p1, r1⟩ := h1.ex
  obtain ⟨u, p2, r2⟩ := h2.ex
  refine ⟨_, pgs_cons p1 p2 hs, fun A F H S σ vs ds S' Q k r e post => ?_⟩
  cases ds with
  | nil => cases e
  | cons d ds =>
    cases r with
    | cons ra rb =>
      obtain ⟨S1, e1, e⟩ := bind_inv e
      refine ⟨_, _, rfl, r1 A F H S σ _ d S1 _ k ra e1 fun A1 F1 H1 σ1 q1 s1 k1 w1 => r2 A1 F1 H1 S1 σ1 _ ds S' Q k1 (Rps.mono s1 _ _ rb) e fun A2 F2 H2 σ2 q2 s2 k2 w2 => ?_⟩
      exact post A2 F2 H2 σ2 (q1.trans q2) (s1.trans s2) k2 fun vs h => (w2 vs fun i hi => h i (List.mem_append_right _ hi)).trans (w1 vs fun i hi => h i (List.mem_append_left _ hi))
theorem g_tup {k} (h : GGs X ts es gs) (hc : X.calm = true := by rfl) (hn : (assignEach es X.env).length = n := by rfl) (hst : (assignEach es X.env).findIdx? (·.1) = none := by rfl) : GG X ts (.Tuple es k pos) (sTup n gs) := by
  obtain ⟨t, p1, r1⟩ := h.ex
  refine ⟨_, pg_tup hc p1 hn hst, fun A F H S σ v d S' Q k r e post => ?_⟩
  cases d <;> simp only [sTup] at e <;> try cases e
  split at e
  · rename_i hl
    obtain ⟨a, vs, rfl, g1, g2, g3⟩ := rp_tup_inv r
    exact ⟨a, vs, rfl, sqT_same k.sub.same.t g1, by rw [g2.length]; exact hl, r1 A F H S σ vs _ S' Q k g2 e post⟩
  · cases e
end
end Fu

set_option maxHeartbeats 4000000
namespace Fu
open PySem PySem.Spec PyProof.Rows L2 RZ
variable [TabsC]

/-! ### slots of a comprehension's own names -/
def wipeS (sl : List (Option R)) : List Nat → List (Option R)
  | [] => sl
  | v :: vs => (wipeS sl vs).set v none
def backS (old new : List (Option R)) : List Nat → List (Option R)
  | [] => new
  | v :: vs => match old[v]? with
    | some x => (backS old new vs).set v x
    | none => backS old new vs
theorem wipeS_len (sl : List (Option R)) : ∀ vs, (wipeS sl vs).length = sl.length
  | [] => rfl
  | v :: vs => by unfold wipeS; rw [List.length_set, wipeS_len sl vs]
theorem backS_len (old new : List (Option R)) : ∀ vs, (backS old new vs).length = new.length
  | [] => rfl
  | v :: vs => by
    unfold backS
    split
    · rw [List.length_set, backS_len old new vs]
    · exact backS_len old new vs
theorem wipeS_in {sl : List (Option R)} {i : Nat} {r : R} : ∀ {vs : List Nat}, (wipeS sl vs)[i]? = some (some r) → sl[i]? = some (some r) ∧ i ∉ vs
  | [], h => ⟨h, by simp⟩
  | v :: vs, h => by
    unfold wipeS at h
    by_cases hi : v = i
    · subst hi
      by_cases hv : v < (wipeS sl vs).length
      · rw [List.getElem?_set_self hv] at h; cases h
      · rw [List.getElem?_eq_none (by simpa using hv)] at h; cases h
    · rw [List.getElem?_set_ne hi] at h
      obtain ⟨h1, h2⟩ := wipeS_in h
      exact ⟨h1, by simp only [List.mem_cons, not_or]; exact ⟨fun e => hi e.symm, h2⟩⟩
theorem wipeS_out {sl : List (Option R)} {i : Nat} : ∀ {vs : List Nat}, i ∉ vs → (wipeS sl vs)[i]? = sl[i]?
  | [], _ => rfl
  | v :: vs, h => by
    simp only [List.mem_cons, not_or] at h
    unfold wipeS
    rw [List.getElem?_set_ne (Ne.symm h.1), wipeS_out h.2]
theorem wipe_outV {σ : L2.St} {i : Nat} : ∀ {vs : List Nat}, i ∉ vs → (wipe σ vs)[i]? = σ[i]?
  | [], _ => rfl
  | v :: vs, h => by
    simp only [List.mem_cons, not_or] at h
    unfold wipe
    rw [List.getElem?_set_ne (Ne.symm h.1), wipe_outV h.2]
theorem backS_in {old new : List (Option R)} {i : Nat} : ∀ {vs : List Nat}, old.length = new.length → (backS old new vs)[i]? = if i ∈ vs then old[i]? else new[i]?
  | [], _ => by simp [backS]
  | v :: vs, h => by
    have ih := backS_in (i := i) (vs := vs) h
    unfold backS
    by_cases hv : v = i
    · subst hv
      simp only [List.mem_cons, true_or, if_true]
      cases e : old[v]? with
      | none =>
        show (backS old new vs)[v]? = none
        rw [ih]
        have hl : new[v]? = none := List.getElem?_eq_none (by rw [← h]; exact List.getElem?_eq_none_iff.mp e)
        split
        · exact e
        · exact hl
      | some x =>
        show ((backS old new vs).set v x)[v]? = some x
        rw [List.getElem?_set_self]
        rw [backS_len, ← h]
        exact (List.getElem?_eq_some_iff.mp e).1
    · have e2 : (match old[v]? with | some x => (backS old new vs).set v x | none => backS old new vs)[i]? = (backS old new vs)[i]? := by
        split
        · rw [List.getElem?_set_ne hv]
        · rfl
      rw [e2, ih]
      have : (i ∈ v :: vs) ↔ i ∈ vs := by
        simp only [List.mem_cons]
        exact ⟨fun z => z.elim (fun e => absurd e.symm hv) id, .inr⟩
      by_cases hm : i ∈ vs
      · rw [if_pos hm, if_pos (this.mpr hm)]
      · rw [if_neg hm, if_neg (fun z => hm (this.mp z))]
section
variable {K : PySem.W.Frag} {A A' : List Addr} {F F' G H : Hp} {S S' : Sx} {σ τ : L2.St}
theorem Ok.wipe {vs : List Nat} (k : Ok K A F H S τ) (e : L2.wipe τ vs = L2.wipe σ vs) : Ok K A F H ⟨wipeS S.sl vs, S.os⟩ (L2.wipe σ vs) := by
  refine ⟨k.sub, by rw [wipeS_len, k.len, ← e, wipe_length], k.alen, k.nd, fun i r h => ?_, k.cell, k.trk, k.tab⟩
  obtain ⟨h1, h2⟩ := wipeS_in h
  obtain ⟨v, e1, q⟩ := k.rslot i r h1
  exact ⟨v, by rw [← e, wipe_outV h2]; exact e1, q⟩
theorem Ok.back {vs : List Nat} (k0 : Ok K A F H S σ) (k : Ok K A' F' G ⟨wipeS S'.sl vs, S'.os⟩ (L2.wipe σ vs)) (p : A <+: A') (s : SameT F F') : Ok K A' F' G ⟨backS S.sl S'.sl vs, S'.os⟩ σ := by
  have hl : S.sl.length = S'.sl.length := by
    have := k.len
    rw [wipeS_len, wipe_length] at this
    rw [k0.len, this]
  refine ⟨k.sub, by rw [backS_len, ← hl]; exact k0.len, k.alen, k.nd, fun i r h => ?_, k.cell, k.trk, k.tab⟩
  simp only at h
  rw [backS_in hl] at h
  by_cases hi : i ∈ vs
  · rw [if_pos hi] at h
    obtain ⟨v, e1, q⟩ := k0.rslot i r h
    exact ⟨v, e1, q.mono p s _ _⟩
  · rw [if_neg hi] at h
    obtain ⟨v, e1, q⟩ := k.rslot i r (by simp only; rw [wipeS_out hi]; exact h)
    rw [wipe_outV hi] at e1
    exact ⟨v, e1, q⟩
/-- one list over a heap: what may be forgotten -/
theorem sub_one {p : Addr} {o : HO} (h : G p = none) (l : Loose o) : Sub G (upd G p o) := ⟨fun b u e => by rw [upd_ne (ne_of_none e h)]; exact e, fun b u e n => by
  by_cases hb : b = p
  · subst hb; rw [upd_same] at e; cases e; exact l
  · rw [upd_ne hb, n] at e; cases e⟩
theorem mix_one {G' : Hp} {p : Addr} {o : HO} (h : G p = none) (h' : G' p = none) : mixH G (upd G p o) G' = upd G' p o := by
  funext b
  by_cases hb : b = p
  · subst hb
    rw [mix_lost h upd_same, upd_same]
  · rw [upd_ne hb]
    cases q : G b with
    | some u => exact mix_held q
    | none => exact mix_free (by rw [upd_ne hb]; exact q)
end

/-! ### tests of a comprehension -/
structure GTs (X : Cx) (ifs : List Expr) (g : M Bool) : Prop where
  ex : ∃ t, PTs X ifs t ∧ RdT X.K t g
def gYes : M Bool := fun S => some (true, S)
theorem ts_nil {X : Cx} : GTs X [] gYes := ⟨_, pts_nil, fun A F H S σ b S' Q k e post => by cases e; exact post A F H (List.prefix_refl _) (SameT.refl F) k⟩
theorem ts_one {X : Cx} {c : Expr} {g : M Bool} (h : GT X c g) : GTs X [c] g := let ⟨_, p, r⟩ := h.ex; ⟨_, pts_one p, r⟩

/-! ### the turns of a comprehension -/
def gTurns (gg : D → Sx → Option Sx) (gt : M Bool) (ge : M D) (vs : List Nat) : List D → Sx → Option (List D × Sx)
  | [], S => some ([], S)
  | d :: ds, S => (gg d ⟨wipeS S.sl vs, S.os⟩).bind fun S1 => (gt S1).bind fun p =>
    if p.1 = true then (ge p.2).bind fun q => (gTurns gg gt ge vs ds q.2).bind fun r => some (q.1 :: r.1, r.2)
    else gTurns gg gt ge vs ds p.2
def gLc (gi : M (List D)) (gg : D → Sx → Option Sx) (gt : M Bool) (ge : M D) (vs : List Nat) : M D := fun S => (gi S).bind fun p => (gTurns gg gt ge vs p.1 p.2).bind fun r => some (.list r.1, ⟨backS p.2.sl r.2.sl vs, r.2.os⟩)
section
variable {K : PySem.W.Frag}
/-- a new list that is nobody's yet -/
def RdN (K : PySem.W.Frag) (t : TE) (g : M D) : Prop := ∀ A F H S σ d S' (Q : VK), Ok K A F H S σ → g S = some (d, S') →
  (∀ A' F' G p vs ds, A <+: A' → SameT F F' → Ok K A' F' G S' σ → G p = none → d = .list ds → Rps K F' vs ds → ds.length ≤ sizeLine → Q (.ref p) (upd G p (.lst vs))) → t σ H Q
theorem RdN.e {t : TE} {g : M D} (h : RdN K t g) : RdE K t g := by
  intro A F H S σ d S' Q k e post
  refine h A F H S σ d S' Q k e fun A1 F1 G p vs ds p1 s1 k1 hp ed r hz => ?_
  subst ed
  obtain ⟨s2, k2, r2⟩ := k1.newList hp r hz
  exact post A1 _ _ _ p1 (s1.trans s2) k2 r2
theorem rd_lc {wi : TI} {g : TG} {tt : TT} {te : TE} {gi : M (List D)} {gg : D → Sx → Option Sx} {gt : M Bool} {ge : M D} {tgt vs : List Nat} (hi : RdI K wi gi) (hg : RdG K tgt g gg) (ht : RdT K tt gt) (he : RdE K te ge) (hv : ∀ i ∈ tgt, i ∈ vs) :
    RdN K (tLc wi (gFr g) (tFrT tt) (tFr te) vs) (gLc gi gg gt ge vs) := by
  intro A F H S σ d S' Q k e post
  obtain ⟨⟨ds, S1⟩, e1, e⟩ := bind_inv e
  obtain ⟨⟨rs, S2⟩, e2, e⟩ := bind_inv e
  cases e
  refine hi A F H S σ ds S1 _ k e1 fun A1 F1 H1 J p1 s1 k1 w hz => fun L hL => ?_
  refine ⟨fun i m H => m = ds.length - i ∧ i ≤ ds.length ∧ ∃ A F G S acc us rest, SameT F1 F ∧ A1 <+: A ∧ Ok K A F G ⟨wipeS S.sl vs, S.os⟩ (wipe σ vs) ∧ G L = none ∧ H = upd G L (.lst us) ∧ Rps K F us acc ∧ acc.length ≤ i ∧
    gTurns gg gt ge vs (ds.drop i) S = some (rest, S2) ∧ acc ++ rest = rs, ⟨ds.length, by simp, Nat.zero_le _, A1, F1, H1, S1, [], [], rs, SameT.refl _, List.prefix_refl _, k1.wipe rfl, hL, rfl, .nil, Nat.le_refl _, by simpa using e2, rfl⟩, ?_⟩
  rintro i m H ⟨rfl, hil, A2, F2, G2, S3, acc, us, rest, s2, p2, k2, hG, rfl, ru, hla, et, ea⟩
  have sFH : SameT F1 (upd G2 L (.lst us)) := (s2.trans k2.sub.same.t).trans (same_upd hG)
  by_cases hlt : i < ds.length
  · refine .inr ⟨w.go i _ sFH hlt, fun H' => i + 1 ≤ ds.length ∧ ∃ A F G S acc us rest, SameT F1 F ∧ A1 <+: A ∧ Ok K A F G ⟨wipeS S.sl vs, S.os⟩ (wipe σ vs) ∧ G L = none ∧ H' = upd G L (.lst us) ∧ Rps K F us acc ∧ acc.length ≤ i + 1 ∧
      gTurns gg gt ge vs (ds.drop (i + 1)) S = some (rest, S2) ∧ acc ++ rest = rs, fun H' h => ⟨ds.length - (i + 1), by omega, rfl, h⟩, fun x H' hy => ?_⟩
    rw [List.drop_eq_getElem_cons hlt] at et
    obtain ⟨S4, e4, et⟩ := bind_inv (show (gg ds[i] ⟨wipeS S3.sl vs, S3.os⟩).bind _ = _ from et)
    obtain ⟨⟨b, S5⟩, e5, et⟩ := bind_inv et
    -- the item
    have key : ∃ F3 G3, SameT F2 F3 ∧ Ok K A2 F3 G3 ⟨wipeS S3.sl vs, S3.os⟩ (wipe σ vs) ∧ G3 L = none ∧ H' = upd G3 L (.lst us) ∧ Rp K F3 x ds[i] := by
      rcases w.yld i ds[i] _ x H' sFH (List.getElem?_eq_getElem hlt) hy with ⟨rfl, r⟩ | ⟨T, ws, es, rfl, hT, rfl, ed, r, hz2⟩
      · exact ⟨F2, G2, SameT.refl _, k2, hG, rfl, r.mono s2 _ _⟩
      · have hTL : T ≠ L := fun z => by subst z; rw [upd_same] at hT; cases hT
        have gT : G2 T = none := by rwa [upd_ne hTL] at hT
        obtain ⟨s3, k3, r3⟩ := k2.newTup gT (Rps.mono s2 _ _ r) hz2
        refine ⟨_, _, s3, k3, by rw [upd_ne (Ne.symm hTL)]; exact hG, ?_, by rw [ed]; exact r3⟩
        funext c
        by_cases h1 : c = T
        · subst h1; rw [upd_same, upd_ne hTL, upd_same]
        · rw [upd_ne h1]
          by_cases h2 : c = L
          · subst h2; rw [upd_same, upd_same]
          · rw [upd_ne h2, upd_ne h2, upd_ne h1]
    obtain ⟨F3, G3, s3, k3, hG3, rfl, rx⟩ := key
    refine ⟨G3, sub_one hG3 trivial, hg A2 F3 G3 _ _ x ds[i] S4 _ k3 rx e4 fun A4 F4 G4 σ4 p4 s4 k4 w4 => ⟨fun c xs q => ?_, fun lost => ?_⟩⟩
    · exact k4.sub.keep (k4.sub.same c _ (by
        have := k3.sub.keep q (fun z => z)
        exact s4.old c _ this trivial)) (fun z => z) |> fun z => k4.sub.same c _ z
    · have hG4 : G4 L = none := lost L _ upd_same hG3
      rw [mix_one hG3 hG4]
      refine ⟨(w4 vs hv).trans (by
        have : ∀ ws : List Nat, wipe (wipe σ ws) ws = wipe σ ws := by
          intro ws
          apply List.ext_getElem?
          intro n
          by_cases hn : n ∈ ws
          · have h1 : ∀ {τ : L2.St} {n : Nat} {ws : List Nat}, n ∈ ws → (wipe τ ws)[n]? = if n < τ.length then some none else none := by
              intro τ n ws
              induction ws with
              | nil => intro h; cases h
              | cons v ws ih =>
                intro h
                unfold wipe
                by_cases hv : v = n
                · subst hv
                  by_cases hl : v < τ.length
                  · rw [List.getElem?_set_self (by rw [wipe_length]; exact hl), if_pos hl]
                  · rw [List.getElem?_eq_none (by rw [List.length_set, wipe_length]; omega), if_neg hl]
                · rw [List.getElem?_set_ne hv]
                  exact ih ((List.mem_cons.mp h).resolve_left fun z => hv z.symm)
            rw [h1 hn, h1 hn, wipe_length]
          · rw [wipe_outV hn]
        exact this vs), G4, sub_one hG4 trivial, ht A4 F4 G4 S4 σ4 b S5 _ k4 e5 fun A5 F5 G5 p5 s5 k5 => ⟨fun c xs q => ?_, fun lost => ?_⟩⟩
      · exact k5.sub.same c _ (s5.old c _ (k4.sub.keep q (fun z => z)) trivial)
      · have hG5 : G5 L = none := lost L _ upd_same hG4
        rw [mix_one hG4 hG5]
        have w5 : wipe σ4 vs = wipe σ vs := (w4 vs hv).trans (by
          have h1 : ∀ {τ : L2.St} {n : Nat} {ws : List Nat}, n ∈ ws → (wipe τ ws)[n]? = if n < τ.length then some none else none := by
            intro τ n ws
            induction ws with
            | nil => intro h; cases h
            | cons v ws ih =>
              intro h
              unfold wipe
              by_cases hv : v = n
              · subst hv
                by_cases hl : v < τ.length
                · rw [List.getElem?_set_self (by rw [wipe_length]; exact hl), if_pos hl]
                · rw [List.getElem?_eq_none (by rw [List.length_set, wipe_length]; omega), if_neg hl]
              · rw [List.getElem?_set_ne hv]
                exact ih ((List.mem_cons.mp h).resolve_left fun z => hv z.symm)
          apply List.ext_getElem?
          intro n
          by_cases hn : n ∈ vs
          · rw [h1 hn, h1 hn, wipe_length]
          · rw [wipe_outV hn])
        cases b with
        | false =>
          rw [if_neg Bool.false_ne_true] at et
          show if false = true then _ else _
          rw [if_neg Bool.false_ne_true]
          exact ⟨hlt, A5, F5, G5, S5, acc, us, rest, s2.trans (s3.trans (s4.trans s5)), p2.trans (p4.trans p5), k5.wipe w5, hG5, rfl, Rps.mono (s3.trans (s4.trans s5)) _ _ ru, Nat.le_succ_of_le hla, et, ea⟩
        | true =>
          rw [if_pos rfl] at et
          show if true = true then _ else _
          rw [if_pos rfl]
          obtain ⟨⟨y, S6⟩, e6, et⟩ := bind_inv et
          obtain ⟨⟨rest', S7⟩, e7, et⟩ := bind_inv et
          cases et
          refine ⟨G5, sub_one hG5 trivial, he A5 F5 G5 S5 σ4 y S6 _ k5 e6 fun A6 F6 G6 v p6 s6 k6 r6 => ⟨fun c xs q => ?_, fun lost => ?_⟩⟩
          · exact k6.sub.same c _ (s6.old c _ (k5.sub.keep q (fun z => z)) trivial)
          · have hG6 : G6 L = none := lost L _ upd_same hG5
            rw [mix_one hG5 hG6]
            have ru' : Rps K F6 us acc := Rps.mono (s3.trans (s4.trans (s5.trans s6))) _ _ ru
            refine ⟨us, upd_same, ?_, hlt, A6, F6, G6, S6, acc ++ [y], us ++ [v], rest', s2.trans (s3.trans (s4.trans (s5.trans s6))), p2.trans (p4.trans (p5.trans p6)), k6.wipe w5, hG6, upd_upd, ru'.append (.cons r6 .nil), ?_, e7, ?_⟩
            · rw [ru'.length]
              omega
            · rw [List.length_append, List.length_singleton]
              omega
            · rw [← ea, List.append_assoc]; rfl
  · have ei : i = ds.length := by omega
    subst ei
    rw [List.drop_length] at et
    cases et
    refine .inl ⟨w.stop _ _ sFH (Nat.le_refl _), ?_⟩
    rw [List.append_nil] at ea
    subst ea
    exact post A2 F2 G2 L us acc (p1.trans p2) (s1.trans s2) (k1.back k2 p2 s2) hG rfl ru (Nat.le_trans hla hz)
end

/-! ### the one reading of each judgement -/
def tOf (K : PySem.W.Frag) (g : M D) : TE := fun σ H Q => ∃ A F S d S', Ok K A F H S σ ∧ g S = some (d, S') ∧ ∀ A' F' H' v, A <+: A' → SameT F F' → Ok K A' F' H' S' σ → Rp K F' v d → Q v H'
def ttOf (K : PySem.W.Frag) (g : M Bool) : TT := fun σ H Q => ∃ A F S d S', Ok K A F H S σ ∧ g S = some (d, S') ∧ ∀ A' F' H', A <+: A' → SameT F F' → Ok K A' F' H' S' σ → Q d H'
def gOf (K : PySem.W.Frag) (tgt : List Nat) (g : D → Sx → Option Sx) : TG := fun v σ H Q => ∃ A F S d S', Ok K A F H S σ ∧ Rp K F v d ∧ g d S = some S' ∧ ∀ A' F' H' σ', A <+: A' → SameT F F' → Ok K A' F' H' S' σ' → (∀ vs, (∀ i ∈ tgt, i ∈ vs) → wipe σ' vs = wipe σ vs) → Q σ' H'
def iOf (K : PySem.W.Frag) (g : M (List D)) : TI := fun σ H R => ∃ A F S ds S', Ok K A F H S σ ∧ g S = some (ds, S') ∧ ∀ A' F' H' J, A <+: A' → SameT F F' → Ok K A' F' H' S' σ → Walk K F' J ds → ds.length ≤ sizeLine → R J H'
theorem GE.pe {X : Cx} {e : Expr} {g : M D} (h : GE X e g) : PE X e (tOf X.K g) := by
  obtain ⟨t, p, r⟩ := h.ex
  exact ⟨fun pins s σ H Q I ⟨A, F, S, d, S', k, e, post⟩ => p.run pins s σ H Q I (r A F H S σ d S' Q k e post)⟩
theorem rd_of {K : PySem.W.Frag} {g : M D} : RdE K (tOf K g) g := fun A F H S σ d S' Q k e post => ⟨A, F, S, d, S', k, e, post⟩
theorem GTs.pts {X : Cx} {es : List Expr} {g : M Bool} (h : GTs X es g) : PTs X es (ttOf X.K g) := by
  obtain ⟨t, p, r⟩ := h.ex
  exact ⟨fun pins s σ H Q I ⟨A, F, S, d, S', k, e, post⟩ => p.run pins s σ H Q I (r A F H S σ d S' Q k e post)⟩
theorem rd_tof {K : PySem.W.Frag} {g : M Bool} : RdT K (ttOf K g) g := fun A F H S σ d S' Q k e post => ⟨A, F, S, d, S', k, e, post⟩
theorem GG.pg {X : Cx} {tgt : List Nat} {e : Expr} {g : D → Sx → Option Sx} (h : GG X tgt e g) : PG X e (gOf X.K tgt g) := by
  obtain ⟨t, p, r⟩ := h.ex
  exact ⟨fun pins s σ H v u Q I rv ⟨A, F, S, d, S', k, rd, e, post⟩ => p.run pins s σ H v u Q I rv (r A F H S σ v d S' Q k rd e post)⟩
theorem rd_gof {K : PySem.W.Frag} {tgt : List Nat} {g : D → Sx → Option Sx} : RdG K tgt (gOf K tgt g) g := fun A F H S σ v d S' Q k r e post => ⟨A, F, S, d, S', k, r, e, post⟩
theorem GI.pi {X : Cx} {tg e : Expr} {g : M (List D)} (h : GI X tg e g) : PI X tg e (iOf X.K g) := by
  obtain ⟨t, p, r⟩ := h.ex
  exact ⟨fun pins s σ H R I ⟨A, F, S, d, S', k, e, post⟩ => p.run pins s σ H R I (r A F H S σ d S' R k e post)⟩
theorem rd_iof {K : PySem.W.Frag} {g : M (List D)} : RdI K (iOf K g) g := fun A F H S σ d S' Q k e post => ⟨A, F, S, d, S', k, e, post⟩

/-! ### comprehensions -/
section
variable {X : Cx} {pos : Pos} {elt tg iter : Expr} {ifs : List Expr} {scope : Scope} {gi : M (List D)} {gg : D → Sx → Option Sx} {gt : M Bool} {ge : M D} {tgt : List Nat}
/-- the block of a comprehension, wherever it stands -/
abbrev InBlk (X : Cx) (scope : Scope) (P : Cx → Prop) : Prop := ∀ (s : Shared) (H : Hp) (C : Addr) (cl : List (Str × Addr)) (fp : List Addr), P (X.blk s H scope (compEnvC scope cl C X.env) fp)
structure GN (X : Cx) (e : Expr) (g : M D) : Prop where
  ex : ∃ t, PE X e t ∧ RdN X.K t g
theorem GN.e {X : Cx} {e : Expr} {g : M D} (h : GN X e g) : GE X e g := let ⟨_, p, r⟩ := h.ex; ⟨_, p, r.e⟩
theorem n_lc (own : List (Str × Nat)) (hN : X.N.Nodup) (hi : GI X tg iter gi) (ok : BlkOk X.N X.env.scope scope own) (hg : InBlk X scope fun Y => GG Y tgt tg gg) (ht : InBlk X scope fun Y => GTs Y ifs gt) (he : InBlk X scope fun Y => GE Y elt ge)
    (hv : ∀ i ∈ tgt, i ∈ own.map (·.2) := by decide) (hc : X.calm = true := by rfl) (hs : ∀ x, foldedSetIterable iter X.env x = pure x := by intro _; rfl) : GN X (.ListComp elt [⟨tg, iter, ifs, 0⟩] scope pos) (gLc gi gg gt ge (own.map (·.2))) :=
  ⟨_, pe_lc hc hN hi.pi ok (fun s H C cl fp => pg_fr (hg s H C cl fp).pg) (fun s H C cl fp => pts_fr (ht s H C cl fp).pts) (fun s H C cl fp => pe_fr (he s H C cl fp).pe) hs, rd_lc rd_iof rd_gof rd_tof rd_of hv⟩
end
end Fu

set_option maxHeartbeats 4000000
namespace Fu
open PySem PySem.Spec PyProof.Rows L2 RZ
variable [TabsC]

theorem wipe_at {τ : L2.St} {n : Nat} : ∀ {ws : List Nat}, n ∈ ws → (wipe τ ws)[n]? = if n < τ.length then some none else none
  | v :: ws, h => by
    unfold wipe
    by_cases hv : v = n
    · subst hv
      by_cases hl : v < τ.length
      · rw [List.getElem?_set_self (by rw [wipe_length]; exact hl), if_pos hl]
      · rw [List.getElem?_eq_none (by rw [List.length_set, wipe_length]; omega), if_neg hl]
    · rw [List.getElem?_set_ne hv]
      exact wipe_at ((List.mem_cons.mp h).resolve_left fun z => hv z.symm)
theorem wipe_wipe (σ : L2.St) (ws : List Nat) : wipe (wipe σ ws) ws = wipe σ ws := by
  apply List.ext_getElem?
  intro n
  by_cases hn : n ∈ ws
  · rw [wipe_at hn, wipe_at hn, wipe_length]
  · rw [wipe_outV hn]
/-- wiped twice, the second time less -/
theorem wipe_less {σ τ : L2.St} {vs ws : List Nat} (h : ∀ i ∈ ws, i ∈ vs) (e : wipe τ ws = wipe σ ws) : wipe τ vs = wipe σ vs := by
  have hl : τ.length = σ.length := by
    have := congrArg List.length e
    rwa [wipe_length, wipe_length] at this
  apply List.ext_getElem?
  intro n
  by_cases hn : n ∈ vs
  · rw [wipe_at hn, wipe_at hn, hl]
  · rw [wipe_outV hn, wipe_outV hn]
    have hw : n ∉ ws := fun z => hn (h n z)
    have := congrArg (fun l => l[n]?) e
    have h2 : (wipe τ ws)[n]? = (wipe σ ws)[n]? := this
    rwa [wipe_outV hw, wipe_outV hw] at h2
section
variable {K : PySem.W.Frag}
theorem yld_ok {A : List Addr} {F1 F2 G2 : Hp} {S : Sx} {τ : L2.St} {J : It} {ds : List D} {L : Addr} {us : List V} {i : Nat} {d : D} {x : V} {H' : Hp} (w : Walk K F1 J ds) (s2 : SameT F1 F2) (k2 : Ok K A F2 G2 S τ) (hG : G2 L = none) (hi : ds[i]? = some d)
    (hy : J.yld i (upd G2 L (.lst us)) x H') : ∃ F3 G3, SameT F2 F3 ∧ Ok K A F3 G3 S τ ∧ G3 L = none ∧ H' = upd G3 L (.lst us) ∧ Rp K F3 x d := by
  have sFH : SameT F1 (upd G2 L (.lst us)) := (s2.trans k2.sub.same.t).trans (same_upd hG)
  rcases w.yld i d _ x H' sFH hi hy with ⟨rfl, r⟩ | ⟨T, ws, es, rfl, hT, rfl, ed, r, hz2⟩
  · exact ⟨F2, G2, SameT.refl _, k2, hG, rfl, r.mono s2 _ _⟩
  · have hTL : T ≠ L := fun z => by subst z; rw [upd_same] at hT; cases hT
    have gT : G2 T = none := by rwa [upd_ne hTL] at hT
    obtain ⟨s3, k3, r3⟩ := k2.newTup gT (Rps.mono s2 _ _ r) hz2
    refine ⟨_, _, s3, k3, by rw [upd_ne (Ne.symm hTL)]; exact hG, ?_, by rw [ed]; exact r3⟩
    funext c
    by_cases h1 : c = T
    · subst h1; rw [upd_same, upd_ne hTL, upd_same]
    · rw [upd_ne h1]
      by_cases h2 : c = L
      · subst h2; rw [upd_same, upd_same]
      · rw [upd_ne h2, upd_ne h2, upd_ne h1]
theorem tup_keep {F F' G G' : Hp} (s1 : Sub F G) (s : SameT F F') (s2 : Sub F' G') : ∀ b xs, G b = some (.tup xs) → G' b = some (.tup xs) := fun b xs q =>
  s2.same b _ (s.old b _ (s1.keep q (fun z => z)) trivial)
end
/-- what is walked, over a part of the heap -/
theorem pi_fr {X : Cx} {tg e : Expr} {t : TI} (h : PI X tg e t) : PI X tg e (iFr t) := by
  refine ⟨fun pins s σ H R I ⟨G, S, q⟩ => ?_⟩
  refine thn (h.run _ s σ G _ (forget I S) q) fun v s1 h1 => thn h1 fun itv s2 h2 => ?_
  obtain ⟨it, fp, tn, J, G', e1, J1, T, st, hf, ht, hq⟩ := h2
  refine ⟨it, fp, tn, J, mixH G H G', e1, remember I S J1 ht, T, st, fun b hb => ?_, hq (lost_of I S J1)⟩
  obtain ⟨f0, f1, f2, f3, f4, f5⟩ := hf b hb
  refine ⟨?_, f1, f2, f3, f4, fun p hp => f5 p ((List.mem_append.mp hp).elim (fun z => List.mem_append_left _ z) fun z => List.mem_append_right _ (List.mem_append_left _ z))⟩
  cases q1 : G b with
  | some u => rw [mix_held q1]; exact f0
  | none =>
    cases q2 : H b with
    | none => rw [mix_free q2]; exact f0
    | some u =>
      obtain ⟨ob, hob⟩ := loose_there (I.hok b u q2) (S.loose b u q2 q1)
      exact absurd rfl (f5 (b, ob) (List.mem_append_right _ (List.mem_append_right _ (mem_lpins q2 q1 hob))))

/-! ### two clauses -/
def gTurns2 (gg : D → Sx → Option Sx) (gt : M Bool) (gi1 : M (List D)) (gg1 : D → Sx → Option Sx) (gt1 : M Bool) (ge : M D) (vs vs1 : List Nat) : List D → Sx → Option (List D × Sx)
  | [], S => some ([], S)
  | d :: ds, S => (gg d ⟨wipeS S.sl vs, S.os⟩).bind fun S1 => (gt S1).bind fun p =>
    if p.1 = true then (gi1 p.2).bind fun q => (gTurns gg1 gt1 ge vs1 q.1 q.2).bind fun r => (gTurns2 gg gt gi1 gg1 gt1 ge vs vs1 ds r.2).bind fun t => some (r.1 ++ t.1, t.2)
    else gTurns2 gg gt gi1 gg1 gt1 ge vs vs1 ds p.2
def gLc2 (gi : M (List D)) (gg : D → Sx → Option Sx) (gt : M Bool) (gi1 : M (List D)) (gg1 : D → Sx → Option Sx) (gt1 : M Bool) (ge : M D) (vs vs1 : List Nat) : M D := fun S => (gi S).bind fun p =>
  (gTurns2 gg gt gi1 gg1 gt1 ge vs vs1 p.1 p.2).bind fun r => if r.1.length ≤ sizeLine then some (.list r.1, ⟨backS p.2.sl r.2.sl vs, r.2.os⟩) else none
section
variable {K : PySem.W.Frag}
theorem rd_lc2 {wi wi1 : TI} {g g1 : TG} {tt tt1 : TT} {te : TE} {gi gi1 : M (List D)} {gg gg1 : D → Sx → Option Sx} {gt gt1 : M Bool} {ge : M D} {tgt tgt1 vs vs1 : List Nat} (hi : RdI K wi gi) (hg : RdG K tgt g gg) (ht : RdT K tt gt)
    (hi1 : RdI K wi1 gi1) (hg1 : RdG K tgt1 g1 gg1) (ht1 : RdT K tt1 gt1) (he : RdE K te ge) (hv : ∀ i ∈ tgt, i ∈ vs) (hv1 : ∀ i ∈ tgt1, i ∈ vs1) (hvv : ∀ i ∈ vs1, i ∈ vs) :
    RdN K (tLc2 wi (gFr g) (tFrT tt) (iFr wi1) (gFr g1) (tFrT tt1) (tFr te) vs vs1) (gLc2 gi gg gt gi1 gg1 gt1 ge vs vs1) := by
  intro A F H S σ d S' Q k e post
  obtain ⟨⟨ds, S1⟩, e1, e⟩ := bind_inv e
  obtain ⟨⟨rs, S2⟩, e2, e⟩ := bind_inv e
  simp only at e
  split at e
  case isFalse => cases e
  rename_i hrs
  cases e
  refine hi A F H S σ ds S1 _ k e1 fun A1 F1 H1 J p1 s1 k1 w hz => fun L hL => ?_
  refine ⟨fun i m H => m = ds.length - i ∧ i ≤ ds.length ∧ ∃ A F G S acc us rest, SameT F1 F ∧ A1 <+: A ∧ Ok K A F G ⟨wipeS S.sl vs, S.os⟩ (wipe σ vs) ∧ G L = none ∧ H = upd G L (.lst us) ∧ Rps K F us acc ∧
    gTurns2 gg gt gi1 gg1 gt1 ge vs vs1 (ds.drop i) S = some (rest, S2) ∧ acc ++ rest = rs, ⟨ds.length, by simp, Nat.zero_le _, A1, F1, H1, S1, [], [], rs, SameT.refl _, List.prefix_refl _, k1.wipe rfl, hL, rfl, .nil, by simpa using e2, rfl⟩, ?_⟩
  rintro i m H ⟨rfl, hil, A2, F2, G2, S3, acc, us, rest, s2, p2, k2, hG, rfl, ru, et, ea⟩
  have sFH : SameT F1 (upd G2 L (.lst us)) := (s2.trans k2.sub.same.t).trans (same_upd hG)
  by_cases hlt : i < ds.length
  · refine .inr ⟨w.go i _ sFH hlt, fun H' => i + 1 ≤ ds.length ∧ ∃ A F G S acc us rest, SameT F1 F ∧ A1 <+: A ∧ Ok K A F G ⟨wipeS S.sl vs, S.os⟩ (wipe σ vs) ∧ G L = none ∧ H' = upd G L (.lst us) ∧ Rps K F us acc ∧
      gTurns2 gg gt gi1 gg1 gt1 ge vs vs1 (ds.drop (i + 1)) S = some (rest, S2) ∧ acc ++ rest = rs, fun H' h => ⟨ds.length - (i + 1), by omega, rfl, h⟩, fun x H' hy => ?_⟩
    rw [List.drop_eq_getElem_cons hlt] at et
    obtain ⟨S4, e4, et⟩ := bind_inv (show (gg ds[i] ⟨wipeS S3.sl vs, S3.os⟩).bind _ = _ from et)
    obtain ⟨⟨b, S5⟩, e5, et⟩ := bind_inv et
    obtain ⟨F3, G3, s3, k3, hG3, rfl, rx⟩ := yld_ok w s2 k2 hG (List.getElem?_eq_getElem hlt) hy
    refine ⟨G3, sub_one hG3 trivial, hg A2 F3 G3 _ _ x ds[i] S4 _ k3 rx e4 fun A4 F4 G4 σ4 p4 s4 k4 w4 => ⟨tup_keep k3.sub s4 k4.sub, fun lost => ?_⟩⟩
    have hG4 : G4 L = none := lost L _ upd_same hG3
    rw [mix_one hG3 hG4]
    have w5 : wipe σ4 vs = wipe σ vs := (w4 vs hv).trans (wipe_wipe σ vs)
    refine ⟨by rw [w5], G4, sub_one hG4 trivial, ht A4 F4 G4 S4 σ4 b S5 _ k4 e5 fun A5 F5 G5 p5 s5 k5 => ⟨tup_keep k4.sub s5 k5.sub, fun lost => ?_⟩⟩
    have hG5 : G5 L = none := lost L _ upd_same hG4
    rw [mix_one hG4 hG5]
    have s35 : SameT F2 F5 := s3.trans (s4.trans s5)
    cases b with
    | false =>
      rw [if_neg Bool.false_ne_true] at et
      show if false = true then _ else _
      rw [if_neg Bool.false_ne_true]
      exact ⟨hlt, A5, F5, G5, S5, acc, us, rest, s2.trans s35, p2.trans (p4.trans p5), k5.wipe w5, hG5, rfl, Rps.mono s35 _ _ ru, et, ea⟩
    | true =>
      rw [if_pos rfl] at et
      show if true = true then _ else _
      rw [if_pos rfl]
      obtain ⟨⟨ds1, S6⟩, e6, et⟩ := bind_inv et
      obtain ⟨⟨rs1, S7⟩, e7, et⟩ := bind_inv et
      obtain ⟨⟨rest', S8⟩, e8, et⟩ := bind_inv et
      cases et
      refine ⟨G5, sub_one hG5 trivial, hi1 A5 F5 G5 S5 σ4 ds1 S6 _ k5 e6 fun A6 F6 G6 J1 p6 s6 k6 w6 hz6 => ⟨tup_keep k5.sub s6 k6.sub, fun lost => ?_⟩⟩
      have hG6 : G6 L = none := lost L _ upd_same hG5
      rw [mix_one hG5 hG6]
      have s36 : SameT F2 F6 := s35.trans s6
      refine ⟨fun j m H => m = ds1.length - j ∧ j ≤ ds1.length ∧ ∃ A F G S acc us rest, SameT F6 F ∧ A6 <+: A ∧ Ok K A F G ⟨wipeS S.sl vs1, S.os⟩ (wipe σ4 vs1) ∧ G L = none ∧ H = upd G L (.lst us) ∧ Rps K F us acc ∧
        gTurns gg1 gt1 ge vs1 (ds1.drop j) S = some (rest, S7) ∧ acc ++ (rest ++ rest') = rs, ⟨ds1.length, by simp, Nat.zero_le _, A6, F6, G6, S6, acc, us, rs1, SameT.refl _, List.prefix_refl _, k6.wipe rfl, hG6, rfl, Rps.mono s36 _ _ ru, by simpa using e7, ea⟩, ?_⟩
      rintro j m H ⟨rfl, hjl, A7, F7, G7, S9, acc7, us7, rest7, s7, p7, k7, hG7, rfl, ru7, et7, ea7⟩
      have sFH7 : SameT F6 (upd G7 L (.lst us7)) := (s7.trans k7.sub.same.t).trans (same_upd hG7)
      by_cases hlt7 : j < ds1.length
      · refine .inr ⟨w6.go j _ sFH7 hlt7, fun H' => j + 1 ≤ ds1.length ∧ ∃ A F G S acc us rest, SameT F6 F ∧ A6 <+: A ∧ Ok K A F G ⟨wipeS S.sl vs1, S.os⟩ (wipe σ4 vs1) ∧ G L = none ∧ H' = upd G L (.lst us) ∧ Rps K F us acc ∧
          gTurns gg1 gt1 ge vs1 (ds1.drop (j + 1)) S = some (rest, S7) ∧ acc ++ (rest ++ rest') = rs, fun H' h => ⟨ds1.length - (j + 1), by omega, rfl, h⟩, fun y H' hy7 => ?_⟩
        rw [List.drop_eq_getElem_cons hlt7] at et7
        obtain ⟨S10, e10, et7⟩ := bind_inv (show (gg1 ds1[j] ⟨wipeS S9.sl vs1, S9.os⟩).bind _ = _ from et7)
        obtain ⟨⟨b7, S11⟩, e11, et7⟩ := bind_inv et7
        obtain ⟨F8, G8, s8, k8, hG8, rfl, rx8⟩ := yld_ok w6 s7 k7 hG7 (List.getElem?_eq_getElem hlt7) hy7
        refine ⟨G8, sub_one hG8 trivial, hg1 A7 F8 G8 _ _ y ds1[j] S10 _ k8 rx8 e10 fun A9 F9 G9 σ9 p9 s9 k9 w9 => ⟨tup_keep k8.sub s9 k9.sub, fun lost => ?_⟩⟩
        have hG9 : G9 L = none := lost L _ upd_same hG8
        rw [mix_one hG8 hG9]
        have w10 : wipe σ9 vs1 = wipe σ4 vs1 := (w9 vs1 hv1).trans (wipe_wipe σ4 vs1)
        refine ⟨w10, G9, sub_one hG9 trivial, ht1 A9 F9 G9 S10 σ9 b7 S11 _ k9 e11 fun A10 F10 G10 p10 s10 k10 => ⟨tup_keep k9.sub s10 k10.sub, fun lost => ?_⟩⟩
        have hG10 : G10 L = none := lost L _ upd_same hG9
        rw [mix_one hG9 hG10]
        have s710 : SameT F7 F10 := s8.trans (s9.trans s10)
        cases b7 with
        | false =>
          rw [if_neg Bool.false_ne_true] at et7
          show if false = true then _ else _
          rw [if_neg Bool.false_ne_true]
          exact ⟨hlt7, A10, F10, G10, S11, acc7, us7, rest7, s7.trans s710, p7.trans (p9.trans p10), k10.wipe w10, hG10, rfl, Rps.mono s710 _ _ ru7, et7, ea7⟩
        | true =>
          rw [if_pos rfl] at et7
          show if true = true then _ else _
          rw [if_pos rfl]
          obtain ⟨⟨z, S12⟩, e12, et7⟩ := bind_inv et7
          obtain ⟨⟨rest8, S13⟩, e13, et7⟩ := bind_inv et7
          cases et7
          refine ⟨G10, sub_one hG10 trivial, he A10 F10 G10 S11 σ9 z S12 _ k10 e12 fun A11 F11 G11 v p11 s11 k11 r11 => ⟨tup_keep k10.sub s11 k11.sub, fun lost => ?_⟩⟩
          have hG11 : G11 L = none := lost L _ upd_same hG10
          rw [mix_one hG10 hG11]
          have ru' : Rps K F11 us7 acc7 := Rps.mono (s710.trans s11) _ _ ru7
          refine ⟨us7, upd_same, ?_, hlt7, A11, F11, G11, S12, acc7 ++ [z], us7 ++ [v], rest8, s7.trans (s710.trans s11), p7.trans (p9.trans (p10.trans p11)), k11.wipe w10, hG11, upd_upd, ru'.append (.cons r11 .nil), e13, ?_⟩
          · rw [ru'.length]
            have := congrArg List.length ea7
            simp only [List.length_append, List.length_cons] at this
            omega
          · rw [← ea7, List.append_assoc]; rfl
      · have ej : j = ds1.length := by omega
        subst ej
        rw [List.drop_length] at et7
        cases et7
        refine .inl ⟨w6.stop _ _ sFH7 (Nat.le_refl _), hlt, A7, F7, G7, S7, acc7, us7, rest', s2.trans (s36.trans s7), p2.trans (p4.trans (p5.trans (p6.trans p7))), ?_, hG7, rfl, ru7, e8, by simpa using ea7⟩
        -- wiped less becomes wiped more
        have k8 := k7.wipe (σ := σ) (vs := vs) ((wipe_less hvv (wipe_wipe σ4 vs1)).trans w5)
        have e9 : wipeS (wipeS S7.sl vs1) vs = wipeS S7.sl vs := by
          apply List.ext_getElem?
          intro n
          have at_ : ∀ {sl : List (Option R)} {n : Nat} {ws : List Nat}, n ∈ ws → (wipeS sl ws)[n]? = if n < sl.length then some none else none := by
            intro sl n ws
            induction ws with
            | nil => intro h; cases h
            | cons v ws ih =>
              intro h
              unfold wipeS
              by_cases hv : v = n
              · subst hv
                by_cases hl : v < sl.length
                · rw [List.getElem?_set_self (by rw [wipeS_len]; exact hl), if_pos hl]
                · rw [List.getElem?_eq_none (by rw [List.length_set, wipeS_len]; omega), if_neg hl]
              · rw [List.getElem?_set_ne hv]
                exact ih ((List.mem_cons.mp h).resolve_left fun z => hv z.symm)
          by_cases hn : n ∈ vs
          · rw [at_ hn, at_ hn, wipeS_len]
          · rw [wipeS_out hn, wipeS_out hn, wipeS_out fun z => hn (hvv n z)]
        simp only [e9] at k8
        exact k8
  · have ei : i = ds.length := by omega
    subst ei
    rw [List.drop_length] at et
    cases et
    refine .inl ⟨w.stop _ _ sFH (Nat.le_refl _), ?_⟩
    rw [List.append_nil] at ea
    subst ea
    exact post A2 F2 G2 L us acc (p1.trans p2) (s1.trans s2) (k1.back k2 p2 s2) hG rfl ru hrs
end
section
variable {X : Cx} {pos : Pos} {elt tg iter tg1 iter1 : Expr} {ifs ifs1 : List Expr} {scope : Scope} {gi gi1 : M (List D)} {gg gg1 : D → Sx → Option Sx} {gt gt1 : M Bool} {ge : M D} {tgt tgt1 : List Nat}
theorem n_lc2 (own : List (Str × Nat)) (vs1 : List Nat) (hN : X.N.Nodup) (hi : GI X tg iter gi) (ok : BlkOk X.N X.env.scope scope own) (hg : InBlk X scope fun Y => GG Y tgt tg gg) (ht : InBlk X scope fun Y => GTs Y ifs gt)
    (hi1 : InBlk X scope fun Y => GI Y tg1 iter1 gi1) (hg1 : InBlk X scope fun Y => GG Y tgt1 tg1 gg1) (ht1 : InBlk X scope fun Y => GTs Y ifs1 gt1) (he : InBlk X scope fun Y => GE Y elt ge)
    (hv : ∀ i ∈ tgt, i ∈ own.map (·.2) := by decide) (hv1 : ∀ i ∈ tgt1, i ∈ vs1 := by decide) (hvv : ∀ i ∈ vs1, i ∈ own.map (·.2) := by decide) (hc : X.calm = true := by rfl) (hs : ∀ x, foldedSetIterable iter X.env x = pure x := by intro _; rfl) (hs1 : ∀ env x, foldedSetIterable iter1 env x = pure x := by intro _ _; rfl) :
    GN X (.ListComp elt [⟨tg, iter, ifs, 0⟩, ⟨tg1, iter1, ifs1, 0⟩] scope pos) (gLc2 gi gg gt gi1 gg1 gt1 ge (own.map (·.2)) vs1) :=
  ⟨_, pe_lc2 hc hN hi.pi ok hvv (fun s H C cl fp => pg_fr (hg s H C cl fp).pg) (fun s H C cl fp => pts_fr (ht s H C cl fp).pts) (fun s H C cl fp => pi_fr (hi1 s H C cl fp).pi) (fun s H C cl fp => pg_fr (hg1 s H C cl fp).pg)
    (fun s H C cl fp => pts_fr (ht1 s H C cl fp).pts) (fun s H C cl fp => pe_fr (he s H C cl fp).pe) hs hs1, rd_lc2 rd_iof rd_gof rd_tof rd_iof rd_gof rd_tof rd_of hv hv1 hvv⟩
end
end Fu

set_option maxHeartbeats 4000000
namespace Fu
open PySem PySem.Spec PyProof.Rows L2 RZ
variable [TabsC]

/-! ### statements -/
inductive Out where
  | nx (S : Sx)
  | rt (d : D) (S : Sx)
  | bk (S : Sx)
  | ct (S : Sx)
  | ro (j : Nat) (S : Sx)
/-- what a statement's end hands on; B: what stands for good, A0: the cells that were there -/
def OutP (K : PySem.W.Frag) (B : Hp) (A0 : List Addr) (o : Out) (E : Ends) : Prop := match o with
  | .nx S' => ∀ A F H σ, SameT B F → A0 <+: A → Ok K A F H S' σ → E.nx σ H
  | .rt d S' => ∀ A F H σ v, SameT B F → A0 <+: A → Ok K A F H S' σ → Rp K F v d → E.rt v H
  | .bk S' => ∀ A F H σ, SameT B F → A0 <+: A → Ok K A F H S' σ → E.bk σ H
  | .ct S' => ∀ A F H σ, SameT B F → A0 <+: A → Ok K A F H S' σ → E.ct σ H
  | .ro j S' => ∀ A F H σ a, SameT B F → A0 <+: A → Ok K A F H S' σ → A[j]? = some a → E.rt (.ref a) H
def RdS (K : PySem.W.Frag) (P : Hp → Prop) (t : TS) (g : Sx → Option Out) : Prop := ∀ B A0 A F H S σ o (E : Ends), P B → SameT B F → A0 <+: A → Ok K A F H S σ → g S = some o → OutP K B A0 o E → t E σ H
structure GS (X : Cx) (P : Hp → Prop) (st : Stmt) (g : Sx → Option Out) : Prop where
  ex : ∃ t, PS X st t ∧ RdS X.K P t g
structure GSs (X : Cx) (P : Hp → Prop) (st : List Stmt) (g : Sx → Option Out) : Prop where
  ex : ∃ t, PSs X st t ∧ RdS X.K P t g
def qNx : Sx → Option Out := fun S => some (.nx S)
def qSeq (g h : Sx → Option Out) : Sx → Option Out := fun S => (g S).bind fun o => match o with
  | .nx S1 => h S1
  | o => some o
def qDrop (g : M D) : Sx → Option Out := fun S => (g S).bind fun p => some (.nx p.2)
def qRet (g : M D) : Sx → Option Out := fun S => (g S).bind fun p => some (.rt p.1 p.2)
def qRetN : Sx → Option Out := fun S => some (.rt .none S)
def qIf (t : M Bool) (g h : Sx → Option Out) : Sx → Option Out := fun S => (t S).bind fun p => if p.1 = true then g p.2 else h p.2
def qSet (i : Nat) (g : M D) : Sx → Option Out := fun S => (g S).bind fun p => some (.nx ⟨p.2.sl.set i (some (.dat p.1)), p.2.os⟩)
def qAsg (gg : D → Sx → Option Sx) (g : M D) : Sx → Option Out := fun S => (g S).bind fun p => (gg p.1 p.2).bind fun S1 => some (.nx S1)
/-- a new list of one's own -/
def qOwn (i : Nat) (g : M D) : Sx → Option Out := fun S => (g S).bind fun p => match p.1 with
  | .list ds => some (.nx ⟨p.2.sl.set i (some (.own p.2.os.length)), p.2.os ++ [some (.lst ds)]⟩)
  | _ => none
section
variable {X : Cx} {P : Hp → Prop} {st : Stmt} {sts : List Stmt} {g h : Sx → Option Out} {e : Expr} {ge : M D} {pos : Pos}
theorem ss_nil : GSs X P [] qNx := ⟨_, pss_nil, fun B A0 A F H S σ o E hP s p k e post => by cases e; exact post A F H σ s p k⟩
theorem rd_seq {K : PySem.W.Frag} {t u : TS} (hg : RdS K P t g) (hh : RdS K P u h) : RdS K P (tSeq t u) (qSeq g h) := by
  intro B A0 A F H S σ o E hP s p k e post
  obtain ⟨o1, e1, e⟩ := bind_inv e
  refine hg B A0 A F H S σ o1 _ hP s p k e1 ?_
  cases o1 with
  | nx S1 => exact fun A1 F1 H1 σ1 s1 p1 k1 => hh B A0 A1 F1 H1 S1 σ1 o E hP s1 p1 k1 e post
  | rt d S1 => cases e; exact post
  | bk S1 => cases e; exact post
  | ct S1 => cases e; exact post
  | ro j S1 => cases e; exact post
theorem ss_cons (h1 : GS X P st g) (h2 : GSs X P sts h) : GSs X P (st :: sts) (qSeq g h) :=
  let ⟨_, p1, r1⟩ := h1.ex; let ⟨_, p2, r2⟩ := h2.ex; ⟨_, pss_cons p1 p2, rd_seq r1 r2⟩
theorem ss_one (h1 : GS X P st g) : GSs X P [st] g := let ⟨_, p1, r1⟩ := h1.ex; ⟨_, pss_one p1, r1⟩
theorem s_expr (he : GE X e ge) (hs : swapsWith e none pos.line X.env = pure false := by rfl) : GS X P (.Expr e pos) (qDrop ge) := by
  obtain ⟨t, p1, r1⟩ := he.ex
  refine ⟨_, ps_expr p1 hs, fun B A0 A F H S σ o E hP s p k e post => ?_⟩
  obtain ⟨⟨d, S1⟩, e1, e⟩ := bind_inv e
  cases e
  exact r1 A F H S σ d S1 _ k e1 fun A1 F1 H1 v p1 s1 k1 _ => post A1 F1 H1 σ (s.trans s1) (p.trans p1) k1
theorem s_ret (he : GE X e ge) : GS X P (.Return (some e) pos) (qRet ge) := by
  obtain ⟨t, p1, r1⟩ := he.ex
  refine ⟨_, ps_ret p1, fun B A0 A F H S σ o E hP s p k e post => ?_⟩
  obtain ⟨⟨d, S1⟩, e1, e⟩ := bind_inv e
  cases e
  exact r1 A F H S σ d S1 _ k e1 fun A1 F1 H1 v p1 s1 k1 rv => post A1 F1 H1 σ v (s.trans s1) (p.trans p1) k1 rv
theorem s_if {c : Expr} {a b : List Stmt} {gt : M Bool} (hc : GT X c gt) (ha : GSs X P a g) (hb : GSs X P b h) : GS X P (.If c a b pos) (qIf gt g h) := by
  obtain ⟨t, pc, rc⟩ := hc.ex
  obtain ⟨_, pa, ra⟩ := ha.ex
  obtain ⟨_, pb, rb⟩ := hb.ex
  refine ⟨_, ps_if pc pa pb, fun B A0 A F H S σ o E hP s p k e post => ?_⟩
  obtain ⟨⟨x, S1⟩, e1, e⟩ := bind_inv e
  refine rc A F H S σ x S1 _ k e1 fun A1 F1 H1 p1 s1 k1 => ?_
  cases x with
  | true => exact ra B A0 A1 F1 H1 S1 σ o E hP (s.trans s1) (p.trans p1) k1 e post
  | false => exact rb B A0 A1 F1 H1 S1 σ o E hP (s.trans s1) (p.trans p1) k1 e post
theorem rd_asgN {K : PySem.W.Frag} {t : TE} (i : Nat) (r : RdE K t ge) : RdS K P (tAsg t (gName i)) (qSet i ge) := by
  intro B A0 A F H S σ o E hP s p k e post
  obtain ⟨⟨d, S1⟩, e1, e⟩ := bind_inv e
  cases e
  exact r A F H S σ d S1 _ k e1 fun A1 F1 H1 v p1 s1 k1 rv => post A1 F1 H1 _ (s.trans s1) (p.trans p1) (k1.setDat rv)
theorem s_set {x : Str} {pos' : Pos} (i : Nat) (hN : X.N.Nodup) (he : GE X e ge) (hx : Loc X.env.scope x := by first | exact Or.inl rfl | exact Or.inr rfl) (hi : X.N[i]? = some x := by rfl) (hs : swapsWith e (some (.Name x pos')) pos.line X.env = pure false := by rfl)
    (hf : X.fn x = true ∨ X.env.scope.names.lookup x = some .local := by first | exact .inl rfl | exact .inr rfl | assumption) : GS X P (.Assign [.Name x pos'] e pos) (qSet i ge) :=
  let ⟨_, p1, r1⟩ := he.ex; ⟨_, ps_set hN hi hx p1 hs hf, rd_asgN i r1⟩
theorem s_asg {tg : Expr} {tgt : List Nat} {gg : D → Sx → Option Sx} (hg : GG X tgt tg gg) (he : GE X e ge) (hs : swapsWithSole [tg] e pos.line X.env = pure false := by rfl) (hw : swappedStores [tg] e X.env = pure none := by rfl)
    (h1 : (assignEach [tg] X.env).map (·.2) = [assign tg X.env] := by rfl) : GS X P (.Assign [tg] e pos) (qAsg gg ge) := by
  obtain ⟨t, pa, ra⟩ := he.ex
  obtain ⟨u, pb, rb⟩ := hg.ex
  refine ⟨_, ps_asg pa pb hs hw h1, fun B A0 A F H S σ o E hP s p k e post => ?_⟩
  obtain ⟨⟨d, S1⟩, e1, e⟩ := bind_inv e
  obtain ⟨S2, e2, e⟩ := bind_inv e
  cases e
  exact ra A F H S σ d S1 _ k e1 fun A1 F1 H1 v p1 s1 k1 rv => rb A1 F1 H1 S1 σ v d S2 _ k1 rv e2 fun A2 F2 H2 σ2 p2 s2 k2 _ => post A2 F2 H2 σ2 (s.trans (s1.trans s2)) (p.trans (p1.trans p2)) k2
/-- a, b = x, y -/
def qPar (i j : Nat) (g : M (List D)) : Sx → Option Out := fun S => (g S).bind fun p => match p.1 with
  | [d, e] => some (.nx ⟨(p.2.sl.set i (some (.dat d))).set j (some (.dat e)), p.2.os⟩)
  | _ => none
/-- a list that stands in the heap and is nobody's becomes a cell -/
theorem Ok.adopt {K : PySem.W.Frag} {A : List Addr} {F G : Hp} {S : Sx} {σ : L2.St} (k : Ok K A F G S σ) {p : Addr} {vs : List V} {ds : List D} (hp : G p = none) (r : Rps K F vs ds) (hz : ds.length ≤ sizeLine) :
    Ok K (A ++ [p]) F (upd G p (.lst vs)) ⟨S.sl, S.os ++ [some (.lst ds)]⟩ σ := k.cellNew hp trivial ⟨vs, upd_same, r, hz⟩
theorem rd_asgO {K : PySem.W.Frag} {t : TE} (i : Nat) (r : RdN K t ge) : RdS K P (tAsg t (gName i)) (qOwn i ge) := by
  intro B A0 A F H S σ o E hP s p k e post
  obtain ⟨⟨d, S1⟩, e1, e⟩ := bind_inv e
  refine r A F H S σ d S1 _ k e1 fun A1 F1 G1 L vs ds p1 s1 k1 hL ed rv hz => ?_
  subst ed
  cases e
  have k2 := k1.adopt hL rv hz
  exact post _ F1 _ _ (s.trans s1) (p.trans (p1.trans (List.prefix_append _ _))) (k2.setOwn (j := S1.os.length) (by rw [k1.alen]; simp))
/-- a new list goes out, nobody's yet -/
def qRetO (g : M D) : Sx → Option Out := fun S => (g S).bind fun p => match p.1 with
  | .list ds => some (.ro p.2.os.length ⟨p.2.sl, p.2.os ++ [some (.lst ds)]⟩)
  | _ => none
theorem s_retNew (he : GN X e ge) : GS X P (.Return (some e) pos) (qRetO ge) := by
  obtain ⟨t, p1, r1⟩ := he.ex
  refine ⟨_, ps_ret p1, fun B A0 A F H S σ o E hP s p k e post => ?_⟩
  obtain ⟨⟨d, S1⟩, e1, e⟩ := bind_inv e
  refine r1 A F H S σ d S1 _ k e1 fun A1 F1 G1 L vs ds p1 s1 k1 hL ed rv hz => ?_
  subst ed
  cases e
  exact post _ F1 _ σ L (s.trans s1) (p.trans (p1.trans (List.prefix_append _ _))) (k1.adopt hL rv hz) (by rw [k1.alen]; simp)
theorem s_own {x : Str} {pos' : Pos} (i : Nat) (hN : X.N.Nodup) (he : GN X e ge) (hx : Loc X.env.scope x := by first | exact Or.inl rfl | exact Or.inr rfl) (hi : X.N[i]? = some x := by rfl) (hs : swapsWith e (some (.Name x pos')) pos.line X.env = pure false := by rfl)
    (hf : X.fn x = true ∨ X.env.scope.names.lookup x = some .local := by first | exact .inl rfl | exact .inr rfl | assumption) : GS X P (.Assign [.Name x pos'] e pos) (qOwn i ge) :=
  let ⟨_, p1, r1⟩ := he.ex; ⟨_, ps_set hN hi hx p1 hs hf, rd_asgO i r1⟩
end
section
variable {X : Cx} {P : Hp → Prop} {pos spos py : Pos} {y : Str} {elt tg iter tg1 iter1 : Expr} {ifs ifs1 : List Expr} {scope : Scope} {gi gi1 : M (List D)} {gg gg1 : D → Sx → Option Sx} {gt gt1 : M Bool} {ge : M D} {tgt tgt1 : List Nat}
/-- name = [..], on one line -/
structure Lc1 (X : Cx) (i : Nat) (st : Stmt) (g : M D) : Prop where
  ex : ∃ t, PS X st (tAsg t (gName i)) ∧ RdN X.K t g
theorem lc1 (i : Nat) (own : List (Str × Nat)) (hN : X.N.Nodup) (hi : GI X tg iter gi) (ok : BlkOk X.N X.env.scope scope own) (hg : InBlk X scope fun Y => GG Y tgt tg gg) (ht : InBlk X scope fun Y => GTs Y ifs gt) (he : InBlk X scope fun Y => GE Y elt ge)
    (hy : X.N[i]? = some y := by rfl) (hyl : X.env.scope.names.lookup y = some .local := by rfl) (hv : ∀ i ∈ tgt, i ∈ own.map (·.2) := by decide) (hc : X.calm = true := by rfl) (hs : ∀ x, foldedSetIterable iter X.env x = pure x := by intro _; rfl)
    (hsw : swapsWith (.ListComp elt [⟨tg, iter, ifs, 0⟩] scope pos) (some (.Name y py)) spos.line X.env = pure true := by exact sw_true rfl rfl rfl (by decide +kernel)) :
    Lc1 X i (.Assign [.Name y py] (.ListComp elt [⟨tg, iter, ifs, 0⟩] scope pos) spos) (gLc gi gg gt ge (own.map (·.2))) :=
  ⟨_, ps_setLc hc hN hy hyl hsw hi.pi ok (fun s H C cl fp => pg_fr (hg s H C cl fp).pg) (fun s H C cl fp => pts_fr (ht s H C cl fp).pts) (fun s H C cl fp => pe_fr (he s H C cl fp).pe) hs, rd_lc rd_iof rd_gof rd_tof rd_of hv⟩
theorem s_ownLc {i : Nat} {st : Stmt} (h : Lc1 X i st ge) : GS X P st (qOwn i ge) := let ⟨_, p, r⟩ := h.ex; ⟨_, p, rd_asgO i r⟩
end

/-! ### new lists -/
section
variable {X : Cx} {pos p : Pos} {a b e : Expr} {es : List Expr} {ga gb : M D} {gs : M (List D)}
theorem n_lst (hs : GA X es gs) : GN X (.List es pos) (gLst gs) := by
  obtain ⟨u, pb, rb⟩ := hs.ex
  refine ⟨_, pe_lst pb, fun A F H S σ d S' Q k e post => ?_⟩
  obtain ⟨⟨x, S1⟩, h1, e⟩ := bind_inv e
  simp only at e
  split at e
  · rename_i hz
    cases e
    exact rb A F H S σ x _ _ k h1 fun A1 F1 H1 vs p1 s1 k1 r1 => ⟨by rw [r1.length]; exact hz, fun p hp => post A1 F1 H1 p vs x p1 s1 k1 hp rfl r1 hz⟩
  · cases e
theorem n_list (hm : X.mg "list" = none) (ha : GA X [e] gs) (hg : Gl X "list" := by rfl) (he : starEach [e] X.env = (false, eval e X.env) :: starEach [] X.env := by rfl) : GN X (.Call (.Name "list" p) [e] [] pos) (gCall dList gs) := by
  obtain ⟨u, pb, rb⟩ := ha.ex
  refine ⟨_, pe_callTy call_list_of hg hm (by decide +kernel) pb (by decide) (by decide) he (by rfl), fun A F H S σ d S' Q k e post => ?_⟩
  obtain ⟨⟨x, S1⟩, h1, e⟩ := bind_inv e
  obtain ⟨z, h2, e⟩ := bind_inv e
  cases e
  simp only at h2
  unfold dList at h2
  split at h2 <;> cases h2
  · refine rb A F H S σ _ _ _ k h1 fun A1 F1 H1 vs p1 s1 k1 r1 => ?_
    obtain ⟨v, rfl, rv⟩ := rps1 r1
    obtain ⟨a, vs, rfl, g1, g2, g3⟩ := rp_list_inv rv
    exact ⟨_, _, rfl, .inl (SqL.of (k1.sub.same _ _ g1)), fun l hl => post A1 F1 H1 l _ _ p1 s1 k1 hl rfl g2 g3⟩
  · refine rb A F H S σ _ _ _ k h1 fun A1 F1 H1 vs p1 s1 k1 r1 => ?_
    obtain ⟨v, rfl, rv⟩ := rps1 r1
    obtain ⟨a, vs, rfl, g1, g2, g3⟩ := rp_tup_inv rv
    exact ⟨_, _, rfl, .inr (sqT_same k1.sub.same.t g1), fun l hl => post A1 F1 H1 l _ _ p1 s1 k1 hl rfl g2 g3⟩
/-- [x] * n -/
def gRep (f : D → D → Option D) (ga gb : M D) : M D := fun S => (gBin f ga gb S).bind fun p => match p.1 with
  | .list ds => some (.list ds, p.2)
  | _ => none
end
end Fu

set_option maxHeartbeats 4000000
namespace Fu
open PySem PySem.Spec PyProof.Rows L2 RZ
variable [TabsC]

/-! ### lists that are written: items, length, comparisons -/
def ownOf (S : Sx) (i : Nat) : Option (Nat × List D) := match S.sl[i]? with
  | some (some (.own j)) => match S.os[j]? with
    | some (some (.lst cs)) => some (j, cs)
    | _ => none
  | _ => none
theorem own_at {K : PySem.W.Frag} {A : List Addr} {F H : Hp} {S : Sx} {σ : L2.St} {i j : Nat} {cs : List D} (k : Ok K A F H S σ) (h : ownOf S i = some (j, cs)) :
    ∃ a vs, S.sl[i]? = some (some (.own j)) ∧ S.os[j]? = some (some (.lst cs)) ∧ A[j]? = some a ∧ σ[i]? = some (some (.ref a)) ∧ F a = none ∧ H a = some (.lst vs) ∧ Rps K F vs cs ∧ cs.length ≤ sizeLine := by
  unfold ownOf at h
  split at h
  · rename_i j' ej
    split at h
    · rename_i cs' ec
      cases h
      obtain ⟨a, ha, ev⟩ := k.oslot i _ ej
      obtain ⟨a', ha', fa, vs, hv, r, hz⟩ := k.cell _ _ ec
      rw [ha] at ha'; cases ha'
      exact ⟨a, vs, ej, ec, ha, ev, fa, hv, r, hz⟩
    · cases h
  · cases h
/-- behind an expression: the cell as it stands by then -/
def cellOf (S : Sx) (j : Nat) : Option (List D) := match S.os[j]? with
  | some (some (.lst cs)) => some cs
  | _ => none
theorem cell_at {K : PySem.W.Frag} {A : List Addr} {F H : Hp} {S : Sx} {σ : L2.St} {j : Nat} {cs : List D} {a : Addr} (k : Ok K A F H S σ) (h : cellOf S j = some cs) (ha : A[j]? = some a) :
    ∃ vs, S.os[j]? = some (some (.lst cs)) ∧ F a = none ∧ H a = some (.lst vs) ∧ Rps K F vs cs ∧ cs.length ≤ sizeLine := by
  unfold cellOf at h
  split at h
  · rename_i cs' ec
    cases h
    obtain ⟨a', ha', fa, vs, hv, r, hz⟩ := k.cell _ _ ec
    rw [ha] at ha'; cases ha'
    exact ⟨vs, ec, fa, hv, r, hz⟩
  · cases h
section
variable {X : Cx} {P : Hp → Prop} {pos py p p2 apos : Pos} {y : Str} {b e : Expr} {es : List Expr} {gb ge : M D} {gs : M (List D)}
def gIxO (i : Nat) (gb : M D) : M D := fun S => (ownOf S i).bind fun o => (gb S).bind fun p => match p.1 with
  | .int n => (cellOf p.2 o.1).bind fun cs => (atI cs n).bind fun d => some (d, p.2)
  | _ => none
theorem e_ixO (i : Nat) (hb : GE X b gb) (hN : X.N[i]? = some y := by rfl) (hv : Vis X.env.scope y := by first | exact Or.inl rfl | exact Or.inr (Or.inl rfl) | exact Or.inr (Or.inr rfl)) (hs : PlainIx b := by exact fun _ _ => rfl) (hdy : (y == ("__debug__" : Str)) = false := by decide) (hcd : (y == ("__classdict__" : Str)) = false := by decide) :
    GE X (.Subscript (.Name y py) b pos) (gIxO i gb) := by
  obtain ⟨u, pb, rb⟩ := hb.ex
  refine ⟨_, pe_ix ix_list (pe_var hN hv hdy hcd) pb hs, fun A F H S σ d S' Q k h post => ?_⟩
  obtain ⟨⟨j, cs0⟩, e0, h⟩ := bind_inv h
  obtain ⟨⟨x, S1⟩, e1, h⟩ := bind_inv h
  obtain ⟨a, vs0, _, _, ha, ev, _⟩ := own_at k e0
  refine ⟨_, ev, rb A F H S σ x S1 _ k e1 fun A1 F1 H1 v p1 s1 k1 r1 => ?_⟩
  cases x <;> simp only at h <;> try cases h
  rename_i n
  obtain ⟨cs, e2, h⟩ := bind_inv h
  obtain ⟨d', e3, h⟩ := bind_inv h
  cases h
  obtain ⟨vs, _, _, hv', r, _⟩ := cell_at k1 e2 (prefix_at p1 ha)
  cases rp_int_inv r1
  obtain ⟨w, ew, rw'⟩ := rps_atI r e3
  exact ⟨a, vs, _, w, rfl, rfl, SqL.of hv', ew, post A1 F1 H1 w p1 s1 k1 rw'⟩
def gLenO (i : Nat) : M D := fun S => (ownOf S i).bind fun o => some (.int o.2.length, S)
theorem e_lenO (i : Nat) (hm : X.mg "len" = none) (hN : X.N[i]? = some y := by rfl) (hv : Vis X.env.scope y := by first | exact Or.inl rfl | exact Or.inr (Or.inl rfl) | exact Or.inr (Or.inr rfl)) (hdy : (y == ("__debug__" : Str)) = false := by decide) (hcd : (y == ("__classdict__" : Str)) = false := by decide)
    (hg : Gl X "len" := by rfl) (he : starEach [.Name y py] X.env = (false, eval (.Name y py) X.env) :: starEach [] X.env := by rfl) : GE X (.Call (.Name "len" p) [.Name y py] [] pos) (gLenO i) := by
  refine ⟨_, pe_callB call_len hg hm PySem.boot_len (pa_cons (pe_var hN hv hdy hcd) pa_nil he) (by decide) (by decide) he (by rfl), fun A F H S σ d S' Q k h post => ?_⟩
  obtain ⟨⟨j, cs⟩, e0, h⟩ := bind_inv h
  cases h
  obtain ⟨a, vs, _, _, ha, ev, _, hv', r, _⟩ := own_at k e0
  exact ⟨_, ev, _, _, rfl, .inl ⟨vs, SqL.of hv', r.length.symm⟩, post A F H _ (List.prefix_refl _) (SameT.refl F) k (.int _)⟩
/-- a comparison by the heap as it stands, its answer a truth -/
def RdB (K : PySem.W.Frag) (r : R2) (f : D → D → Option D) : Prop := ∀ (H : Hp) x y d e z (Q : VK), Rp K H x d → Rp K H y e → f d e = some z → (∀ b, z = .bool b → Q (.bl b) H) → r x y H Q
theorem rb_ne {K : PySem.W.Frag} : RdB K (rNeAny K) dNe := by
  intro H x y d e z Q rx ry h post
  unfold dNe at h
  split at h
  · rename_i c
    cases h
    exact .inl ⟨d, e, rx.dpH (SameT.refl H) c.1, ry.dpH (SameT.refl H) c.2, c.1, c.2, post _ rfl⟩
  · obtain ⟨b, h1, rfl⟩ := Option.map_eq_some_iff.mp h
    obtain ⟨u, v, rfl, rfl, rfl⟩ := strEq_inv h1
    obtain ⟨rfl, _⟩ := rp_str_inv rx
    obtain ⟨rfl, _⟩ := rp_str_inv ry
    exact .inr ⟨rfl, by rw [strV_eq]; exact post _ rfl⟩
theorem rb_notIn {K : PySem.W.Frag} : RdB K (rNotInAny K) dNotIn := by
  intro H x y d e z Q rx ry h post
  unfold dNotIn at h
  split at h
  · cases h
    obtain ⟨rfl, _⟩ := rp_str_inv rx
    obtain ⟨rfl, _⟩ := rp_str_inv ry
    exact .inl ⟨_, _, rfl, rfl, post _ rfl⟩
  · split at h
    · rename_i c
      cases h
      exact .inr (.inl ⟨_, _, rx.dpH (SameT.refl H) c.1, ry.dpH (SameT.refl H) c.2, c.1, c.2, post _ rfl⟩)
    · cases h
  · split at h
    · rename_i c
      cases h
      exact .inr (.inr ⟨_, _, rx.dpH (SameT.refl H) c.1, ry.dpH (SameT.refl H) c.2, c.1, c.2, post _ rfl⟩)
    · cases h
  · cases h
/-- own on the left, own on the right -/
def gOL (f : D → D → Option D) (i : Nat) (gb : M D) : M D := fun S => (ownOf S i).bind fun o => (gb S).bind fun p => (cellOf p.2 o.1).bind fun cs => match f (.list cs) p.1 with
  | some (.bool b) => some (.bool b, p.2)
  | _ => none
def gOR (f : D → D → Option D) (gb : M D) (i : Nat) : M D := fun S => (gb S).bind fun p => (ownOf p.2 i).bind fun o => match f p.1 (.list o.2) with
  | some (.bool b) => some (.bool b, p.2)
  | _ => none
theorem rp_cell {K : PySem.W.Frag} {F H : Hp} {a : Addr} {vs : List V} {cs : List D} (s : SameT F H) (h : H a = some (.lst vs)) (r : Rps K F vs cs) (hz : cs.length ≤ sizeLine) : Rp K H (.ref a) (.list cs) := .lst h (Rps.mono s _ _ r) hz
theorem rd_OL {K : PySem.W.Frag} {r : R2} {f : D → D → Option D} {tb : TE} (i : Nat) (hf : RdB K r f) (rb : RdE K tb gb) : RdE K (tOp r (tVar i) tb) (gOL f i gb) := by
  intro A F H S σ d S' Q k h post
  obtain ⟨⟨j, cs0⟩, e0, h⟩ := bind_inv h
  obtain ⟨⟨x, S1⟩, e1, h⟩ := bind_inv h
  obtain ⟨cs, e2, h⟩ := bind_inv h
  obtain ⟨a, vs0, _, _, ha, ev, _⟩ := own_at k e0
  refine ⟨_, ev, rb A F H S σ x S1 _ k e1 fun A1 F1 H1 v p1 s1 k1 r1 => ?_⟩
  obtain ⟨vs, _, _, hv', rr, hz⟩ := cell_at k1 e2 (prefix_at p1 ha)
  simp only at h
  split at h
  · rename_i b hb
    cases h
    exact hf H1 _ _ _ _ _ Q (rp_cell k1.sub.same.t hv' rr hz) (r1.mono k1.sub.same.t _ _) hb fun b' eb => by cases eb; exact post A1 F1 H1 _ p1 s1 k1 (.bl _)
  · cases h
theorem rd_OR {K : PySem.W.Frag} {r : R2} {f : D → D → Option D} {tb : TE} (i : Nat) (hf : RdB K r f) (rb : RdE K tb gb) : RdE K (tOp r tb (tVar i)) (gOR f gb i) := by
  intro A F H S σ d S' Q k h post
  obtain ⟨⟨x, S1⟩, e1, h⟩ := bind_inv h
  obtain ⟨⟨j, cs⟩, e0, h⟩ := bind_inv h
  refine rb A F H S σ x S1 _ k e1 fun A1 F1 H1 v p1 s1 k1 r1 => ?_
  obtain ⟨a, vs, _, _, ha, ev, _, hv', rr, hz⟩ := own_at k1 e0
  refine ⟨_, ev, ?_⟩
  simp only at h
  split at h
  · rename_i b hb
    cases h
    exact hf H1 _ _ _ _ _ Q (r1.mono k1.sub.same.t _ _) (rp_cell k1.sub.same.t hv' rr hz) hb fun b' eb => by cases eb; exact post A1 F1 H1 _ p1 s1 k1 (.bl _)
  · cases h
theorem t_neO (i : Nat) (hu : X.A.units + 64 < cLine) (hb : GE X b gb) (hN : X.N[i]? = some y := by rfl) (hv : Vis X.env.scope y := by first | exact Or.inl rfl | exact Or.inr (Or.inl rfl) | exact Or.inr (Or.inr rfl)) (hdy : (y == ("__debug__" : Str)) = false := by decide) (hcd : (y == ("__classdict__" : Str)) = false := by decide) :
    GT X (.Compare (.Name y py) [.NotEq] [b] pos) (gB (gOL dNe i gb)) := let ⟨_, pb, rb⟩ := hb.ex; ⟨_, pt_cmpR (op_neAny hu) (pe_var hN hv hdy hcd) pb (nomark _), rd_test (rd_OL i rb_ne rb)⟩
theorem t_notInO (i : Nat) (hu : X.A.units + 65 < cLine) (hb : GE X b gb) (hN : X.N[i]? = some y := by rfl) (hv : Vis X.env.scope y := by first | exact Or.inl rfl | exact Or.inr (Or.inl rfl) | exact Or.inr (Or.inr rfl)) (hdy : (y == ("__debug__" : Str)) = false := by decide) (hcd : (y == ("__classdict__" : Str)) = false := by decide)
    (hm : behindInMarks .NotIn (.Name y py) = false := by rfl) : GT X (.Compare b [.NotIn] [.Name y py] pos) (gB (gOR dNotIn gb i)) := let ⟨_, pb, rb⟩ := hb.ex; ⟨_, pt_cmpR (op_notInAny hu) pb (pe_var hN hv hdy hcd) hm, rd_test (rd_OR i rb_notIn rb)⟩

/-! ### lists that are written: append, extend, pop, xs[k] = v -/
def setCell (S : Sx) (j : Nat) (cs : List D) : Sx := ⟨S.sl, S.os.set j (some (.lst cs))⟩
/-- xs.append(e), its value None -/
def gApp (i : Nat) (ge : M D) : M D := fun S => (ownOf S i).bind fun o => (ge S).bind fun p => (cellOf p.2 o.1).bind fun cs => if cs.length < sizeLine then some (.none, setCell p.2 o.1 (cs ++ [p.1])) else none
theorem e_append (i : Nat) (he : GE X e ge) (hN : X.N[i]? = some y := by rfl) (hv : Vis X.env.scope y := by first | exact Or.inl rfl | exact Or.inr (Or.inl rfl) | exact Or.inr (Or.inr rfl)) (hdy : (y == ("__debug__" : Str)) = false := by decide) (hcd : (y == ("__classdict__" : Str)) = false := by decide)
    (hbase : attributeBase (.Name y py) "append" X.env (eval (.Name y py) X.env) = eval (.Name y py) X.env := by rfl)
    (hfew : ((backTo pos (starEach [e] X.env)).all (fun x => !x.1) && (backToKw pos (keywordEach [] X.env)).all (fun x => x.1.isSome) && decide (([e] : List Expr).length + ([] : List Keyword).length + (if ([] : List Keyword).isEmpty then 0 else 1) < 30)) = true := by rfl)
    (hline : (apos.endLine == pos.line) = true := by rfl) (hst : starEach [e] X.env = (false, eval e X.env) :: starEach [] X.env := by rfl) : GE X (.Call (.Attribute (.Name y py) "append" apos) [e] [] pos) (gApp i ge) := by
  obtain ⟨t, pa, ra⟩ := he.ex
  refine ⟨_, pe_bm PySem.F.plainAttrs_list PySem.F.slot_list_append PySem.F.type_list_append mt_append (pe_var hN hv hdy hcd) (pa_cons pa pa_nil hst) hbase hfew hline hst (by rfl), fun A F H S σ d S' Q k h post => ?_⟩
  obtain ⟨⟨j, cs0⟩, e0, h⟩ := bind_inv h
  obtain ⟨⟨x, S1⟩, e1, h⟩ := bind_inv h
  obtain ⟨cs, e2, h⟩ := bind_inv h
  simp only at h
  split at h
  · rename_i hlt
    cases h
    obtain ⟨a, vs0, _, _, ha, ev, _, hv0, _, _⟩ := own_at k e0
    refine ⟨_, ev, .inl ⟨rfl, _, SqL.of hv0⟩, ra A F H S σ x S1 _ k e1 fun A1 F1 H1 v p1 s1 k1 r1 => ?_⟩
    obtain ⟨vs, ec, fa, hv', rr, hz⟩ := cell_at k1 e2 (prefix_at p1 ha)
    refine ⟨a, vs, v, rfl, rfl, hv', by rw [rr.length]; exact hlt, ?_⟩
    exact post A1 F1 _ _ p1 s1 (k1.cellSet ec (prefix_at p1 ha) trivial ⟨_, upd_same, rr.append (.cons r1 .nil), by rw [List.length_append]; exact hlt⟩) .non
  · cases h
def gExt (i : Nat) (ge : M D) : M D := fun S => (ownOf S i).bind fun o => (ge S).bind fun p => (cellOf p.2 o.1).bind fun cs => match p.1 with
  | .list xs => if cs.length + xs.length ≤ sizeLine then some (.none, setCell p.2 o.1 (cs ++ xs)) else none
  | _ => none
theorem e_extend (i : Nat) (he : GE X e ge) (hN : X.N[i]? = some y := by rfl) (hv : Vis X.env.scope y := by first | exact Or.inl rfl | exact Or.inr (Or.inl rfl) | exact Or.inr (Or.inr rfl)) (hdy : (y == ("__debug__" : Str)) = false := by decide) (hcd : (y == ("__classdict__" : Str)) = false := by decide)
    (hbase : attributeBase (.Name y py) "extend" X.env (eval (.Name y py) X.env) = eval (.Name y py) X.env := by rfl)
    (hfew : ((backTo pos (starEach [e] X.env)).all (fun x => !x.1) && (backToKw pos (keywordEach [] X.env)).all (fun x => x.1.isSome) && decide (([e] : List Expr).length + ([] : List Keyword).length + (if ([] : List Keyword).isEmpty then 0 else 1) < 30)) = true := by rfl)
    (hline : (apos.endLine == pos.line) = true := by rfl) (hst : starEach [e] X.env = (false, eval e X.env) :: starEach [] X.env := by rfl) : GE X (.Call (.Attribute (.Name y py) "extend" apos) [e] [] pos) (gExt i ge) := by
  obtain ⟨t, pa, ra⟩ := he.ex
  refine ⟨_, pe_bm PySem.F.plainAttrs_list PySem.F.slot_list_extend PySem.F.type_list_extend mt_extend (pe_var hN hv hdy hcd) (pa_cons pa pa_nil hst) hbase hfew hline hst (by rfl), fun A F H S σ d S' Q k h post => ?_⟩
  obtain ⟨⟨j, cs0⟩, e0, h⟩ := bind_inv h
  obtain ⟨⟨x, S1⟩, e1, h⟩ := bind_inv h
  obtain ⟨cs, e2, h⟩ := bind_inv h
  cases x <;> simp only at h <;> try cases h
  split at h
  · rename_i hlt
    cases h
    obtain ⟨a, vs0, _, _, ha, ev, _, hv0, _, _⟩ := own_at k e0
    refine ⟨_, ev, .inl ⟨rfl, _, SqL.of hv0⟩, ra A F H S σ _ S1 _ k e1 fun A1 F1 H1 v p1 s1 k1 r1 => ?_⟩
    obtain ⟨vs, ec, fa, hv', rr, hz⟩ := cell_at k1 e2 (prefix_at p1 ha)
    obtain ⟨b, us, rfl, g1, g2, g3⟩ := rp_list_inv r1
    refine ⟨a, b, vs, us, rfl, rfl, hv', k1.sub.same _ _ g1, by rw [rr.length, g2.length]; exact hlt, ?_⟩
    exact post A1 F1 _ _ p1 s1 (k1.cellSet ec (prefix_at p1 ha) trivial ⟨_, upd_same, rr.append g2, by rw [List.length_append]; exact hlt⟩) .non
  · cases h
def gPopAt (i : Nat) (ge : M D) : M D := fun S => (ownOf S i).bind fun o => (ge S).bind fun p => (cellOf p.2 o.1).bind fun cs => match p.1 with
  | .int n => if 0 ≤ n ∧ n < cs.length then (cs[n.toNat]?).bind fun d => some (d, setCell p.2 o.1 (cs.eraseIdx n.toNat)) else none
  | _ => none
theorem e_popAt (i : Nat) (he : GE X e ge) (hN : X.N[i]? = some y := by rfl) (hv : Vis X.env.scope y := by first | exact Or.inl rfl | exact Or.inr (Or.inl rfl) | exact Or.inr (Or.inr rfl)) (hdy : (y == ("__debug__" : Str)) = false := by decide) (hcd : (y == ("__classdict__" : Str)) = false := by decide)
    (hbase : attributeBase (.Name y py) "pop" X.env (eval (.Name y py) X.env) = eval (.Name y py) X.env := by rfl)
    (hfew : ((backTo pos (starEach [e] X.env)).all (fun x => !x.1) && (backToKw pos (keywordEach [] X.env)).all (fun x => x.1.isSome) && decide (([e] : List Expr).length + ([] : List Keyword).length + (if ([] : List Keyword).isEmpty then 0 else 1) < 30)) = true := by rfl)
    (hline : (apos.endLine == pos.line) = true := by rfl) (hst : starEach [e] X.env = (false, eval e X.env) :: starEach [] X.env := by rfl) : GE X (.Call (.Attribute (.Name y py) "pop" apos) [e] [] pos) (gPopAt i ge) := by
  obtain ⟨t, pa, ra⟩ := he.ex
  refine ⟨_, pe_bm PySem.F.plainAttrs_list PySem.F.slot_list_pop PySem.F.type_list_pop mt_popAt (pe_var hN hv hdy hcd) (pa_cons pa pa_nil hst) hbase hfew hline hst (by rfl), fun A F H S σ d S' Q k h post => ?_⟩
  obtain ⟨⟨j, cs0⟩, e0, h⟩ := bind_inv h
  obtain ⟨⟨x, S1⟩, e1, h⟩ := bind_inv h
  obtain ⟨cs, e2, h⟩ := bind_inv h
  cases x with
  | int n =>
    simp only at h
    split at h
    · rename_i hn
      obtain ⟨d', e3, h⟩ := bind_inv h
      cases h
      obtain ⟨a, vs0, _, _, ha, ev, _, hv0, _, _⟩ := own_at k e0
      refine ⟨_, ev, .inl ⟨rfl, _, SqL.of hv0⟩, ra A F H S σ _ S1 _ k e1 fun A1 F1 H1 v p1 s1 k1 r1 => ?_⟩
      obtain ⟨vs, ec, fa, hv', rr, hz⟩ := cell_at k1 e2 (prefix_at p1 ha)
      cases rp_int_inv r1
      obtain ⟨w, ew, rw'⟩ := rr.get e3
      have hl := line_int
      refine ⟨a, vs, n, n.toNat, w, rfl, rfl, hv', by omega, by omega, seqIndex_of hn.1 (by rw [rr.length]; exact hn.2), ew, ?_⟩
      refine post A1 F1 _ w p1 s1 (k1.cellSet ec (prefix_at p1 ha) trivial ⟨_, upd_same, rr.erase _, ?_⟩) rw'
      have := len_erase cs n.toNat
      omega
    · cases h
  | _ => cases h
/-- xs[k] = v -/
def qSetO (i : Nat) (gb ge : M D) : Sx → Option Out := fun S => (ge S).bind fun p => (ownOf p.2 i).bind fun o => (gb p.2).bind fun q => match q.1 with
  | .int n => (cellOf q.2 o.1).bind fun cs => (ixN cs.length n).bind fun m => some (.nx (setCell q.2 o.1 (cs.set m p.1)))
  | _ => none
theorem s_setO {spos : Pos} (i : Nat) (hb : GE X b gb) (he : GE X e ge) (hN : X.N[i]? = some y := by rfl) (hv : Vis X.env.scope y := by first | exact Or.inl rfl | exact Or.inr (Or.inl rfl) | exact Or.inr (Or.inr rfl)) (hdy : (y == ("__debug__" : Str)) = false := by decide) (hcd : (y == ("__classdict__" : Str)) = false := by decide)
    (ha : ∀ v, assign (.Subscript (.Name y py) b pos) X.env v = (do
      let ov ← holding [v] (eval (.Name y py) X.env)
      let iv ← holding [v, ov] (eval b X.env)
      standAt pos
      holding [v, ov, iv] (setItem ov iv v)
      release [v, ov, iv] []) := by intro _; rfl)
    (hs : swapsWithSole [.Subscript (.Name y py) b pos] e spos.line X.env = pure false := by rfl) (hw : swappedStores [.Subscript (.Name y py) b pos] e X.env = pure none := by rfl)
    (h1 : (assignEach [.Subscript (.Name y py) b pos] X.env).map (·.2) = [assign (.Subscript (.Name y py) b pos) X.env] := by rfl) : GS X P (.Assign [.Subscript (.Name y py) b pos] e spos) (qSetO i gb ge) := by
  obtain ⟨t, pe, re⟩ := he.ex
  obtain ⟨u, pb, rb⟩ := hb.ex
  refine ⟨_, ps_asg pe (pg_sub (pe_var hN hv hdy hcd) pb set_list ha) hs hw h1, fun B A0 A F H S σ o E hP s p k h post => ?_⟩
  obtain ⟨⟨d, S1⟩, e1, h⟩ := bind_inv h
  obtain ⟨⟨j, cs0⟩, e0, h⟩ := bind_inv h
  obtain ⟨⟨x, S2⟩, e2, h⟩ := bind_inv h
  cases x <;> simp only at h <;> try cases h
  rename_i n
  obtain ⟨cs, e3, h⟩ := bind_inv h
  obtain ⟨m, e4, h⟩ := bind_inv h
  cases h
  refine re A F H S σ d S1 _ k e1 fun A1 F1 H1 v p1 s1 k1 r1 => ?_
  obtain ⟨a, vs0, _, _, ha', ev, _, hv0, _, _⟩ := own_at k1 e0
  refine ⟨_, ev, rb A1 F1 H1 S1 σ _ S2 _ k1 e2 fun A2 F2 H2 w p2 s2 k2 r2 => ?_⟩
  cases rp_int_inv r2
  obtain ⟨vs, ec, fa, hv', rr, hz⟩ := cell_at k2 e3 (prefix_at p2 ha')
  refine ⟨a, vs, n, m, rfl, rfl, hv', by rw [rr.length]; exact e4, ?_⟩
  exact post A2 F2 _ _ (s.trans (s1.trans s2)) (p.trans (p1.trans p2)) (k2.cellSet ec (prefix_at p2 ha') trivial ⟨_, upd_same, Rps.set _ (r1.mono s2 _ _) rr, by rw [List.length_set]; exact hz⟩)

/-! ### x += e of numbers -/
end

/-! ### loops -/
def gLoop (gg : D → Sx → Option Sx) (body : Sx → Option Out) : List D → Sx → Option Out
  | [], S => some (.nx S)
  | d :: ds, S => (gg d S).bind fun S1 => (body S1).bind fun o => match o with
    | .nx S2 => gLoop gg body ds S2
    | .ct S2 => gLoop gg body ds S2
    | .bk S2 => some (.nx S2)
    | .rt d S2 => some (.rt d S2)
    | .ro j S2 => some (.ro j S2)
def qFor (gi : M (List D)) (gg : D → Sx → Option Sx) (body : Sx → Option Out) : Sx → Option Out := fun S => (gi S).bind fun p => gLoop gg body p.1 p.2
section
variable {K : PySem.W.Frag} {P : Hp → Prop}
/-- the loop, its walk over a heap W that B holds -/
theorem rd_loop {g : TG} {tb : TS} {gg : D → Sx → Option Sx} {body : Sx → Option Out} {tgt : List Nat} (hg : RdG K tgt g gg) (hb : RdS K P tb body) {B W : Hp} {A0 : List Addr} {J : It} {ds : List D} {E : Ends} {o : Out} (hP : P B) (w : Walk K W J ds) (hW : SameT W B)
    (post : OutP K B A0 o E) {A : List Addr} {F H : Hp} {S : Sx} {σ : L2.St} (s : SameT B F) (p : A0 <+: A) (k : Ok K A F H S σ) (e : gLoop gg body ds S = some o) :
    ∃ Wi : Nat → Nat → L2.St → Hp → Prop, (∃ m, Wi 0 m σ H) ∧ ∀ i m σ H, Wi i m σ H →
      (J.stop i H ∧ E.nx σ H) ∨ (J.go i H ∧ ∃ N : L2.St → Hp → Prop, (∀ σ' H', N σ' H' → ∃ m', m' < m ∧ Wi (i + 1) m' σ' H') ∧ ∀ x H', J.yld i H x H' → g x σ H' fun σ2 H2 => tb { E with nx := N, ct := N, bk := E.nx } σ2 H2) := by
  refine ⟨fun i m σ H => m = ds.length - i ∧ i ≤ ds.length ∧ ∃ A F S, SameT B F ∧ A0 <+: A ∧ Ok K A F H S σ ∧ gLoop gg body (ds.drop i) S = some o, ⟨ds.length, by simp, Nat.zero_le _, A, F, S, s, p, k, by simpa using e⟩, ?_⟩
  rintro i m σ1 H1 ⟨rfl, hil, A1, F1, S1, s1, p1, k1, e1⟩
  have sWH : SameT W H1 := (hW.trans s1).trans k1.sub.same.t
  by_cases hlt : i < ds.length
  · refine .inr ⟨w.go i _ sWH hlt, fun σ' H' => i + 1 ≤ ds.length ∧ ∃ A F S, SameT B F ∧ A0 <+: A ∧ Ok K A F H' S σ' ∧ gLoop gg body (ds.drop (i + 1)) S = some o, fun σ' H' h => ⟨ds.length - (i + 1), by omega, rfl, h⟩, fun x H' hy => ?_⟩
    rw [List.drop_eq_getElem_cons hlt] at e1
    obtain ⟨S2, e2, e1⟩ := bind_inv (show (gg ds[i] S1).bind _ = _ from e1)
    obtain ⟨o2, e3, e1⟩ := bind_inv e1
    have key : ∃ F2, SameT F1 F2 ∧ Ok K A1 F2 H' S1 σ1 ∧ Rp K F2 x ds[i] := by
      rcases w.yld i ds[i] _ x H' sWH (List.getElem?_eq_getElem hlt) hy with ⟨rfl, r⟩ | ⟨T, ws, es, rfl, hT, rfl, ed, r, hz2⟩
      · exact ⟨F1, SameT.refl _, k1, (r.mono hW _ _).mono s1 _ _⟩
      · obtain ⟨s3, k3, r3⟩ := k1.newTup hT (Rps.mono s1 _ _ (Rps.mono hW _ _ r)) hz2
        exact ⟨_, s3, k3, by rw [ed]; exact r3⟩
    obtain ⟨F2, s2, k2, rx⟩ := key
    refine hg A1 F2 H' S1 σ1 x ds[i] S2 _ k2 rx e2 fun A3 F3 H3 σ3 p3 s3 k3 _ => ?_
    refine hb B A0 A3 F3 H3 S2 σ3 o2 _ hP (s1.trans (s2.trans s3)) (p1.trans p3) k3 e3 ?_
    cases o2 with
    | nx S4 => exact fun A4 F4 H4 σ4 s4 p4 k4 => ⟨hlt, A4, F4, S4, s4, p4, k4, e1⟩
    | ct S4 => exact fun A4 F4 H4 σ4 s4 p4 k4 => ⟨hlt, A4, F4, S4, s4, p4, k4, e1⟩
    | bk S4 => cases e1; exact post
    | rt d S4 => cases e1; exact post
    | ro j S4 => cases e1; exact post
  · have ei : i = ds.length := by omega
    subst ei
    rw [List.drop_length] at e1
    cases e1
    exact .inl ⟨w.stop _ _ sWH (Nat.le_refl _), post A1 F1 H1 σ1 s1 p1 k1⟩
end
section
variable {X : Cx} {P : Hp → Prop} {pos : Pos} {tg iter : Expr} {body : List Stmt} {gi : M (List D)} {gg : D → Sx → Option Sx} {g : Sx → Option Out} {tgt : List Nat}
theorem same_outp {K : PySem.W.Frag} {B B' : Hp} {A0 A0' : List Addr} {o : Out} {E : Ends} (s : SameT B B') (p : A0 <+: A0') (h : OutP K B A0 o E) : OutP K B' A0' o E := by
  cases o with
  | nx S => exact fun A F H σ s1 p1 k => h A F H σ (s.trans s1) (p.trans p1) k
  | rt d S => exact fun A F H σ v s1 p1 k => h A F H σ v (s.trans s1) (p.trans p1) k
  | bk S => exact fun A F H σ s1 p1 k => h A F H σ (s.trans s1) (p.trans p1) k
  | ct S => exact fun A F H σ s1 p1 k => h A F H σ (s.trans s1) (p.trans p1) k
  | ro j S => exact fun A F H σ a s1 p1 k => h A F H σ a (s.trans s1) (p.trans p1) k
/-- over data that stand: the body may be judged over any base -/
theorem s_for (hp : PassesOwn (model X.prog X.w) X.A X.env X.xe) (hi : GI X tg iter gi) (hg : GG X tgt tg gg) (hb : GSs X P body g) (hPall : ∀ B, P B) (hc : X.calm = true := by rfl) (hs : ∀ x, foldedSetIterable iter X.env x = pure x := by intro _; rfl) : GS X P (.For tg iter body [] pos) (qFor gi gg g) := by
  obtain ⟨t, pi, ri⟩ := hi.ex
  obtain ⟨u, pg, rg⟩ := hg.ex
  obtain ⟨v, pb, rb⟩ := hb.ex
  refine ⟨_, ps_for hp hc pi pg pb hs, fun B A0 A F H S σ o E hP s p k e post => ?_⟩
  obtain ⟨⟨ds, S1⟩, e1, e⟩ := bind_inv e
  exact ri A F H S σ ds S1 _ k e1 fun A1 F1 H1 J p1 s1 k1 w _ => rd_loop rg rb (hPall F1) w (SameT.refl F1) (same_outp (s.trans s1) p post) (SameT.refl F1) (p1) k1 e
/-- over numbers -/
theorem s_for0 (hp : PassesOwn (model X.prog X.w) X.A X.env X.xe) (hi : GI0 X tg iter gi) (hg : GG X tgt tg gg) (hb : GSs X P body g) (hc : X.calm = true := by rfl) (hs : ∀ x, foldedSetIterable iter X.env x = pure x := by intro _; rfl) : GS X P (.For tg iter body [] pos) (qFor gi gg g) := by
  obtain ⟨t, pi, ri⟩ := hi.ex
  obtain ⟨u, pg, rg⟩ := hg.ex
  obtain ⟨v, pb, rb⟩ := hb.ex
  refine ⟨_, ps_for hp hc pi pg pb hs, fun B A0 A F H S σ o E hP s p k e post => ?_⟩
  obtain ⟨⟨ds, S1⟩, e1, e⟩ := bind_inv e
  exact ri A F H S σ ds S1 _ k e1 fun A1 F1 H1 J p1 s1 k1 w => rd_loop rg rb hP w (SameT.empty _) post (s.trans s1) (p.trans p1) k1 e
/-- while: so many turns at most -/
def gWhile (gt : M Bool) (body : Sx → Option Out) : Nat → Sx → Option Out
  | 0, _ => none
  | n + 1, S => (gt S).bind fun p => if p.1 = true then (body p.2).bind fun o => match o with
      | .nx S2 => gWhile gt body n S2
      | .ct S2 => gWhile gt body n S2
      | .bk S2 => some (.nx S2)
      | .rt d S2 => some (.rt d S2)
      | .ro j S2 => some (.ro j S2)
    else some (.nx p.2)
theorem s_while (n : Nat) {c : Expr} {gt : M Bool} (hp : PassesOwn (model X.prog X.w) X.A X.env X.xe) (hcnd : GT X c gt) (hb : GSs X P body g) : GS X P (.While c body [] pos) (gWhile gt g n) := by
  obtain ⟨t, pc, rc⟩ := hcnd.ex
  obtain ⟨v, pb, rb⟩ := hb.ex
  refine ⟨_, ps_while hp pc pb, fun B A0 A F H S σ o E hP s p k e post => ?_⟩
  refine ⟨fun m σ H => ∃ A F S, SameT B F ∧ A0 <+: A ∧ Ok X.K A F H S σ ∧ gWhile gt g m S = some o, ⟨n, A, F, S, s, p, k, e⟩, ?_⟩
  rintro m σ1 H1 ⟨A1, F1, S1, s1, p1, k1, e1⟩
  cases m with
  | zero => cases e1
  | succ m =>
    obtain ⟨⟨b, S2⟩, e2, e1⟩ := bind_inv (show (gt S1).bind _ = _ from e1)
    refine rc A1 F1 H1 S1 σ1 b S2 _ k1 e2 fun A2 F2 H2 p2 s2 k2 => ?_
    cases b with
    | false =>
      cases e1
      exact post A2 F2 H2 σ1 (s1.trans s2) (p1.trans p2) k2
    | true =>
      rw [if_pos rfl] at e1
      obtain ⟨o2, e3, e1⟩ := bind_inv e1
      show if true = true then _ else _
      rw [if_pos rfl]
      refine ⟨fun σ' H' => ∃ A F S, SameT B F ∧ A0 <+: A ∧ Ok X.K A F H' S σ' ∧ gWhile gt g m S = some o, fun σ' H' h => ⟨m, Nat.lt_succ_self m, h⟩, ?_⟩
      refine rb B A0 A2 F2 H2 S2 σ1 o2 _ hP (s1.trans s2) (p1.trans p2) k2 e3 ?_
      cases o2 with
      | nx S4 => exact fun A4 F4 H4 σ4 s4 p4 k4 => ⟨A4, F4, S4, s4, p4, k4, e1⟩
      | ct S4 => exact fun A4 F4 H4 σ4 s4 p4 k4 => ⟨A4, F4, S4, s4, p4, k4, e1⟩
      | bk S4 => cases e1; exact post
      | rt d S4 => cases e1; exact post
      | ro j S4 => cases e1; exact post
end
end Fu

set_option maxHeartbeats 4000000
namespace Fu
open PySem PySem.Spec PyProof.Rows L2 RZ
variable [TabsC]

/-! ### defs -/
def initS (n : Nat) (ds : List D) : List (Option R) := ds.map (fun d => some (.dat d)) ++ List.replicate (n - ds.length) none
/-- a def's value by data -/
def mF (n : Nat) (g : Sx → Option Out) : List D → Option D := fun ds => (g ⟨initS n ds, []⟩).bind fun o => match o with
  | .nx _ => some .none
  | .rt d _ => some d
  | _ => none
/-- .. where the first argument is a list that it writes -/
def mIO (n : Nat) (g : Sx → Option Out) : List D → List D → Option (D × List D) := fun cs ds => (g ⟨some (.own 0) :: initS (n - 1) ds, [some (.lst cs)]⟩).bind fun o => match o with
  | .nx S => (cellOf S 0).bind fun c => some (.none, c)
  | .rt d S => (cellOf S 0).bind fun c => some (d, c)
  | _ => none
theorem initS_in {n : Nat} {ds : List D} {i : Nat} {r : R} (h : (initS n ds)[i]? = some (some r)) : ∃ d, ds[i]? = some d ∧ r = .dat d := by
  unfold initS at h
  by_cases hi : i < ds.length
  · rw [List.getElem?_append_left (by simpa using hi), List.getElem?_map] at h
    obtain ⟨d', e1, e2⟩ := Option.map_eq_some_iff.mp h
    cases e2
    exact ⟨d', e1, rfl⟩
  · rw [List.getElem?_append_right (by simp; omega)] at h
    have := List.mem_of_getElem? h
    rw [List.mem_replicate] at this
    exact nomatch this.2
theorem start_at {N : List Str} {vs : List V} {i : Nat} {v : V} (h : vs[i]? = some v) : (L2.start N vs)[i]? = some (some v) := by
  unfold L2.start
  rw [List.getElem?_append_left (by rw [List.length_map]; exact (List.getElem?_eq_some_iff.mp h).1), List.getElem?_map, h]
  rfl
theorem start_dat {K : PySem.W.Frag} {H : Hp} {N : List Str} {vs : List V} {ds : List D} (r : Rps K H vs ds) (hl : vs.length ≤ N.length) {H' : Hp} (s : Sub H H') (tb : LamX.Tabs TabsC.T H) : Ok K [] H H' ⟨initS N.length ds, []⟩ (L2.start N vs) := by
  refine ⟨s, ?_, rfl, List.nodup_nil, fun i q h => ?_, fun j c h => by simp at h, fun a h => by simp at h, tb⟩
  · simp [initS, L2.start, r.length]
  · obtain ⟨d, e1, rfl⟩ := initS_in h
    obtain ⟨v, ev, rv⟩ := r.get e1
    exact ⟨v, start_at ev, .dat rv⟩
section
variable {P : Program} {w : World} {K : PySem.W.Frag} {mg : Str → Option Value} {base : Heap} {x qual : Str} {st : Stmt} {f : Addr} {fd : FuncData} {N ps : List Str} {k n : Nat} {g : Sx → Option Out}
abbrev AnyB : Hp → Prop := fun _ => True
/-- the context of the def's body -/
abbrev cxF (P : Program) (w : World) (K : PySem.W.Frag) (mg : Str → Option Value) (base : Heap) (N : List Str) (qual : Str) (st : Stmt) (f : Addr) (cdv : Value) (A : Around) (outer : List Env) (s : Shared) (H : Hp) (E : XK) : Cx := (cxOf CX0 P w K mg base N qual (defScope st) f cdv A outer s H E).nox
theorem fn_pure (F : Fun K x qual st f fd) (S : FnScope N ps (defScope st)) (hn : ps.length = n) (hN : n ≤ N.length)
    (body : ∀ (cdv : Value) (A : Around) (outer : List Env) (s : Shared) (H : Hp) (E : XK), Room k (A.deeper (envOfC qual (defScope st) s.heap.objs.size f cdv)) → GSs (cxF P w K mg base N qual st f cdv A outer s H E) AnyB (defBody st) g) :
    FnOk P w K mg base CX0 (k + 1) f fd ps (spF K n (mF N.length g)) := by
  refine F.ok S (spF_len hn) fun cdv A outer s H vs Q E hr h => ?_
  obtain ⟨ds, z, hd, r, e, tb, post⟩ := h
  obtain ⟨t, p, rd⟩ := (body cdv A outer s H E hr).ex
  refine ⟨t, p, ?_⟩
  obtain ⟨o, e1, e⟩ := bind_inv e
  have hl : vs.length ≤ N.length := by rw [r.length, hd]; exact hN
  refine rd H [] [] H H _ (L2.start N vs) o _ trivial (SameT.refl H) (List.prefix_refl _) (start_dat r hl (Sub.refl H) tb) e1 ?_
  cases o with
  | nx S => cases e; exact fun A1 F1 H1 σ1 s1 p1 k1 => post H1 .non (s1.trans k1.sub.same.t) .non
  | rt d S => cases e; exact fun A1 F1 H1 σ1 v s1 p1 k1 rv => post H1 v (s1.trans k1.sub.same.t) (rv.mono k1.sub.same.t _ _)
  | bk S => cases e
  | ct S => cases e
  | ro j S => cases e
theorem start_own {K : PySem.W.Frag} {F : Hp} {N : List Str} {a : Addr} {xs vs : List V} {cs ds : List D} (fa : F a = none) (rc : Rps K F xs cs) (hz : cs.length ≤ sizeLine) (r : Rps K F vs ds) (hl : vs.length + 1 ≤ N.length) (tb : LamX.Tabs TabsC.T F) :
    Ok K [a] F (upd F a (.lst xs)) ⟨some (.own 0) :: initS (N.length - 1) ds, [some (.lst cs)]⟩ (L2.start N (.ref a :: vs)) := by
  obtain ⟨m, M, rfl⟩ : ∃ m M, N = m :: M := by
    cases N with
    | nil => simp at hl
    | cons m M => exact ⟨m, M, rfl⟩
  have hl' : vs.length ≤ M.length := by simpa using hl
  have k := start_dat (N := M) r hl' (sub_one fa (o := .lst xs) trivial) tb
  have es : L2.start (m :: M) (.ref a :: vs) = some (.ref a) :: L2.start M vs := by
    unfold L2.start
    simp
  rw [es]
  simp only [List.length_cons, Nat.add_sub_cancel]
  refine ⟨k.sub, by simpa using k.len, rfl, by simp, fun i r h => ?_, fun j c h => ?_, fun b h => ?_, tb⟩
  · cases i with
    | zero =>
      simp at h
      subst h
      exact ⟨_, rfl, .own rfl⟩
    | succ i =>
      obtain ⟨v, e1, r1⟩ := k.rslot i r (by simpa using h)
      exact ⟨v, by simpa using e1, r1.mono (List.nil_prefix) (SameT.refl _) _ _⟩
  · cases j with
    | zero =>
      simp at h
      subst h
      exact ⟨a, rfl, fa, xs, upd_same, rc, hz⟩
    | succ j => simp at h
  · simp at h
    subst h
    exact ⟨_, upd_same, trivial⟩
theorem fn_io (F : Fun K x qual st f fd) (S : FnScope N ps (defScope st)) (hn : ps.length = n + 1) (hN : n + 1 ≤ N.length)
    (body : ∀ (cdv : Value) (A : Around) (outer : List Env) (s : Shared) (H : Hp) (E : XK), Room k (A.deeper (envOfC qual (defScope st) s.heap.objs.size f cdv)) → GSs (cxF P w K mg base N qual st f cdv A outer s H E) AnyB (defBody st) g) :
    FnOk P w K mg base CX0 (k + 1) f fd ps (spIO K n (mIO N.length g)) := by
  refine F.ok S (spIO_len hn) fun cdv A outer s H vs Q E hr h => ?_
  obtain ⟨a, xs, rest, F0, cs, ds, r, cs', rfl, fa, rfl, hz, rc, rr, hd, e, tb, post⟩ := h
  obtain ⟨t, p, rd⟩ := (body cdv A outer s _ E hr).ex
  refine ⟨t, p, ?_⟩
  obtain ⟨o, e1, e⟩ := bind_inv e
  have hl : rest.length + 1 ≤ N.length := by rw [rr.length, hd]; exact hN
  have fin : ∀ (A1 : List Addr) (F1 H1 : Hp) (σ1 : L2.St) (S1 : Sx) (v : V) (d : D) (c : List D), SameT F0 F1 → [a] <+: A1 → Ok K A1 F1 H1 S1 σ1 → Rp K F1 v d → cellOf S1 0 = some c → (d, c) = (r, cs') → Q v H1 := by
    intro A1 F1 H1 σ1 S1 v d c s1 p1 k1 rv hc ee
    cases ee
    have ha : A1[0]? = some a := prefix_at p1 rfl
    obtain ⟨us, ec, fa1, hv, rc1, hz1⟩ := cell_at k1 hc ha
    have s2 : SameT F1 (fun b => if b = a then none else H1 b) := L2.Same.t fun b o q => by
      show (if b = a then none else H1 b) = some o
      rw [if_neg (ne_of_none q fa1)]
      exact k1.sub.same b o q
    have := post (fun b => if b = a then none else H1 b) us v (s1.trans s2) (if_pos rfl) (Rps.mono s2 _ _ rc1) hz1 (rv.mono s2 _ _)
    rwa [show upd (fun b => if b = a then none else H1 b) a (.lst us) = H1 from ?_] at this
    funext b
    by_cases hb : b = a
    · subst hb; rw [upd_same, hv]
    · rw [upd_ne hb]; exact if_neg hb
  refine rd F0 [a] [a] F0 _ _ _ o _ trivial (SameT.refl F0) (List.prefix_refl _) (start_own fa rc hz rr hl tb) e1 ?_
  cases o with
  | nx S =>
    obtain ⟨c, hc, e⟩ := bind_inv e
    exact fun A1 F1 H1 σ1 s1 p1 k1 => fin A1 F1 H1 σ1 S .non .none c s1 p1 k1 .non hc (by cases e; rfl)
  | rt d S =>
    obtain ⟨c, hc, e⟩ := bind_inv e
    exact fun A1 F1 H1 σ1 v s1 p1 k1 rv => fin A1 F1 H1 σ1 S v d c s1 p1 k1 rv hc (by cases e; rfl)
  | bk S => cases e
  | ct S => cases e
  | ro j S => cases e
end
theorem hu65 {A : Around} {k : Nat} (hr : Room k A) : A.units + 65 < cLine := by have := hr.un; omega


/-! ### defs that hand back a new list -/
/-- the heap without the list at a -/
def lessH (H : Hp) (a : Addr) : Hp := fun b => if b = a then none else H b
theorem less_upd {H : Hp} {a : Addr} {o : HO} (h : H a = some o) : upd (lessH H a) a o = H := by
  funext b
  by_cases hb : b = a
  · subst hb; rw [upd_same, h]
  · rw [upd_ne hb]; exact if_neg hb
theorem less_same {K : PySem.W.Frag} {A : List Addr} {F H : Hp} {S : Sx} {σ : L2.St} (k : Ok K A F H S σ) {a : Addr} (fa : F a = none) : SameT F (lessH H a) := L2.Same.t fun b o q => by
  show (if b = a then none else H b) = some o
  rw [if_neg (ne_of_none q fa)]
  exact k.sub.same b o q
section
variable {P : Program} {w : World} {K : PySem.W.Frag} {mg : Str → Option Value} {base : Heap} {x qual : Str} {st : Stmt} {f : Addr} {fd : FuncData} {N ps : List Str} {k n : Nat} {g : Sx → Option Out}
end
/-! ### the script -/
section
variable {X : Cx} {pos p p2 py : Pos} {y : Str} {lo hi : Option Expr} {gl gh : M (Option Int)}
def scrOf (S : Sx) (i : Nat) : Option (List Int) := match S.sl[i]? with
  | some (some (.scr ns)) => some ns
  | _ => none
theorem scr_at {K : PySem.W.Frag} {A : List Addr} {F H : Hp} {S : Sx} {σ : L2.St} {i : Nat} {ns : List Int} (k : Ok K A F H S σ) (h : scrOf S i = some ns) : ns.length ≤ 63 ∧ ∃ a, σ[i]? = some (some (.ref a)) ∧ SqL K F a (ns.map V.int) := by
  unfold scrOf at h
  split at h
  · rename_i ns' e
    cases h
    exact k.sslot i _ e
  · cases h
def gScrSl (i : Nat) (gl gh : M (Option Int)) : M D := fun S => (scrOf S i).bind fun ns => (gl S).bind fun q => (gh q.2).bind fun r => some (.list ((cutL ns q.1 r.1).map .int), r.2)
theorem cut_map {α β : Type} (f : α → β) (xs : List α) (lo hi : Option Int) : cutL (xs.map f) lo hi = (cutL xs lo hi).map f := by
  unfold cutL
  rw [List.length_map, List.map_take, List.map_drop]
theorem e_scrSl (i : Nat) (hl : GO X lo gl) (hh : GO X hi gh) (hN : X.N[i]? = some y := by rfl) (hv : Vis X.env.scope y := by first | exact Or.inl rfl | exact Or.inr (Or.inl rfl) | exact Or.inr (Or.inr rfl)) (hdy : (y == ("__debug__" : Str)) = false := by decide) (hcd : (y == ("__classdict__" : Str)) = false := by decide) :
    GE X (.Subscript (.Name y py) (.Slice lo hi none p2) pos) (gScrSl i gl gh) := by
  obtain ⟨_, pl, rl⟩ := hl.ex
  obtain ⟨_, ph, rh⟩ := hh.ex
  refine ⟨_, pe_slice sl_list (pe_var hN hv hdy hcd) pl ph, fun A F H S σ d S' Q k e post => ?_⟩
  obtain ⟨ns, e0, e⟩ := bind_inv e
  obtain ⟨⟨l, S2⟩, h2, e⟩ := bind_inv e
  obtain ⟨⟨u, S3⟩, h3, e⟩ := bind_inv e
  cases e
  obtain ⟨hz, a, ev, hs⟩ := scr_at k e0
  refine ⟨_, ev, rl A F H S σ l _ _ k h2 fun A2 F2 H2 p2 s2 k2 => rh A2 F2 H2 _ σ u _ _ k2 h3 fun A3 F3 H3 p3 s3 k3 => ⟨a, _, rfl, k3.sub.same.seq (s3.seq (s2.seq hs)), fun p hp => ?_⟩⟩
  have e2 : cutV (ns.map V.int) l u = (cutL ns l u).map V.int := cut_map V.int ns l u
  rw [e2]
  obtain ⟨s4, k4, r4⟩ := k3.newList hp (Rps.ints (cutL ns l u)) (by
    rw [List.length_map]
    have h1 := cutL_le ns l u
    have h2 : (63 : Nat) ≤ sizeLine := by decide
    omega)
  exact post A3 _ _ _ (p2.trans p3) (s2.trans (s3.trans s4)) k4 r4
def gScrLen (i : Nat) : M D := fun S => (scrOf S i).bind fun ns => some (.int ns.length, S)
theorem e_scrLen (i : Nat) (hm : X.mg "len" = none) (hN : X.N[i]? = some y := by rfl) (hv : Vis X.env.scope y := by first | exact Or.inl rfl | exact Or.inr (Or.inl rfl) | exact Or.inr (Or.inr rfl)) (hdy : (y == ("__debug__" : Str)) = false := by decide) (hcd : (y == ("__classdict__" : Str)) = false := by decide)
    (hg : Gl X "len" := by rfl) (he : starEach [.Name y py] X.env = (false, eval (.Name y py) X.env) :: starEach [] X.env := by rfl) : GE X (.Call (.Name "len" p) [.Name y py] [] pos) (gScrLen i) := by
  refine ⟨_, pe_callB call_len hg hm PySem.boot_len (pa_cons (pe_var hN hv hdy hcd) pa_nil he) (by decide) (by decide) he (by rfl), fun A F H S σ d S' Q k h post => ?_⟩
  obtain ⟨ns, e0, h⟩ := bind_inv h
  cases h
  obtain ⟨hz, a, ev, hs⟩ := scr_at k e0
  exact ⟨_, ev, _, _, rfl, .inl ⟨_, k.sub.same.seq hs, (List.length_map _).symm⟩, post A F H _ (List.prefix_refl _) (SameT.refl F) k (.int _)⟩
end
/-- a def of the script that hands back a new list -/
def spScrN (K : PySem.W.Frag) (f : List Int → Option (List D)) : Sp := fun vs H Q _ => ∃ a ns zs, vs = [.ref a] ∧ SqL K H a (ns.map V.int) ∧ ns.length ≤ 63 ∧ f ns = some zs ∧ LamX.Tabs TabsC.T H ∧
  ∀ F p us, SameT H F → F p = none → Rps K F us zs → zs.length ≤ sizeLine → Q (.ref p) (upd F p (.lst us))
def mScrN (n : Nat) (g : Sx → Option Out) : List Int → Option (List D) := fun ns => (g ⟨some (.scr ns) :: List.replicate (n - 1) none, []⟩).bind fun o => match o with
  | .ro j S => cellOf S j
  | _ => none
/-- the law: True -/
def mScr (n : Nat) (g : Sx → Option Out) : List Int → Option D := fun ns => (g ⟨some (.scr ns) :: List.replicate (n - 1) none, []⟩).bind fun o => match o with
  | .rt d _ => some d
  | _ => none
/-- nothing that is written stands there -/
def NoLst (B : Hp) : Prop := ∀ b xs, B b ≠ some (.lst xs)
def spLaw (K : PySem.W.Frag) (f : List Int → Option D) : Sp := fun vs H Q _ => ∃ a ns, vs = [.ref a] ∧ SqL K H a (ns.map V.int) ∧ ns.length ≤ 63 ∧ NoLst H ∧ f ns = some (.bool true) ∧ LamX.Tabs TabsC.T H ∧ ∀ H', Q (.bl true) H'
theorem start_scr {K : PySem.W.Frag} {H : Hp} {N : List Str} {a : Addr} {ns : List Int} (h : SqL K H a (ns.map V.int)) (hz : ns.length ≤ 63) (hN : 1 ≤ N.length) (tb : LamX.Tabs TabsC.T H) : Ok K [] H H ⟨some (.scr ns) :: List.replicate (N.length - 1) none, []⟩ (L2.start N [.ref a]) := by
  refine ⟨Sub.refl H, ?_, rfl, List.nodup_nil, fun i r e => ?_, fun j c e => by simp at e, fun b e => by simp at e, tb⟩
  · simp [L2.start]
  · cases i with
    | zero =>
      simp at e
      subst e
      exact ⟨_, rfl, .scr hz h⟩
    | succ i =>
      have := List.mem_of_getElem? (show (List.replicate (N.length - 1) (none : Option R))[i]? = some (some r) by simpa using e)
      rw [List.mem_replicate] at this
      exact nomatch this.2
section
variable {P : Program} {w : World} {K : PySem.W.Frag} {mg : Str → Option Value} {base : Heap} {x qual : Str} {st : Stmt} {f : Addr} {fd : FuncData} {N ps : List Str} {k n : Nat} {g : Sx → Option Out}
theorem fn_scrN (F : Fun K x qual st f fd) (S : FnScope N ps (defScope st)) (hn : ps.length = 1) (hN : 1 ≤ N.length)
    (body : ∀ (cdv : Value) (A : Around) (outer : List Env) (s : Shared) (H : Hp) (E : XK), Room k (A.deeper (envOfC qual (defScope st) s.heap.objs.size f cdv)) → GSs (cxF P w K mg base N qual st f cdv A outer s H E) AnyB (defBody st) g) :
    FnOk P w K mg base CX0 (k + 1) f fd ps (spScrN K (mScrN N.length g)) := by
  refine F.ok S (fun vs H Q E h => by obtain ⟨a, ns, zs, rfl, _⟩ := h; exact hn.symm) fun cdv A outer s H vs Q E hr h => ?_
  obtain ⟨a, ns, zs, rfl, hs, hz, e, tb, post⟩ := h
  obtain ⟨t, p, rd⟩ := (body cdv A outer s H E hr).ex
  refine ⟨t, p, ?_⟩
  obtain ⟨o, e1, e⟩ := bind_inv e
  refine rd H [] [] H H _ _ o _ trivial (SameT.refl H) (List.prefix_refl _) (start_scr hs hz hN tb) e1 ?_
  cases o with
  | nx S => cases e
  | rt d S => cases e
  | bk S => cases e
  | ct S => cases e
  | ro j S =>
    intro A1 F1 H1 σ1 a s1 p1 k1 ha
    obtain ⟨us, ec, fa, hv, rc, hz⟩ := cell_at k1 e ha
    have := post (lessH H1 a) a us (s1.trans (less_same k1 fa)) (if_pos rfl) (Rps.mono (less_same k1 fa) _ _ rc) hz
    rwa [less_upd hv] at this
end

/-! ### a def by its name -/
def Has (P : Program) (w : World) (K : PySem.W.Frag) (mg : Str → Option Value) (base : Heap) (x : Str) (k : Nat) (ps : List Str) (sp : Sp) : Prop :=
  ∃ f fd, mg x = some (.ref f) ∧ PySem.W.keepIn K (.ref f) = true ∧ L2.Binds K fd ps [] ∧ FnOk P w K mg base CX0 k f fd ps sp
def DefAt (K : PySem.W.Frag) (mg : Str → Option Value) (x : Str) (st : Stmt) (ps : List Str) : Prop := ∃ f fd, mg x = some (.ref f) ∧ Fun K x x st f fd ∧ L2.Binds K fd ps []
theorem Has.imp {P : Program} {w : World} {K : PySem.W.Frag} {mg : Str → Option Value} {base : Heap} {x : Str} {k : Nat} {ps : List Str} {sp sp' : Sp} (h : Has P w K mg base x k ps sp) (i : ∀ vs H Q E, sp' vs H Q E → sp vs H Q E) : Has P w K mg base x k ps sp' :=
  let ⟨f, fd, a, b, c, F⟩ := h; ⟨f, fd, a, b, c, F.imp i⟩
section
variable {P : Program} {w : World} {K : PySem.W.Frag} {mg : Str → Option Value} {base : Heap} {x : Str} {st : Stmt} {N ps : List Str} {k n : Nat} {g : Sx → Option Out}
abbrev Body (P : Program) (w : World) (K : PySem.W.Frag) (mg : Str → Option Value) (base : Heap) (N : List Str) (x : Str) (st : Stmt) (k : Nat) (Pb : Hp → Prop) (g : Sx → Option Out) : Prop :=
  ∀ (f : Addr) (cdv : Value) (A : Around) (outer : List Env) (s : Shared) (H : Hp) (E : XK), Room k (A.deeper (envOfC x (defScope st) s.heap.objs.size f cdv)) → GSs (cxF P w K mg base N x st f cdv A outer s H E) Pb (defBody st) g
theorem has_pure (D : DefAt K mg x st ps) (S : FnScope N ps (defScope st)) (hn : ps.length = n) (hN : n ≤ N.length) (body : Body P w K mg base N x st k AnyB g) : Has P w K mg base x (k + 1) ps (spF K n (mF N.length g)) :=
  let ⟨f, fd, m, F, b⟩ := D; ⟨f, fd, m, F.kp, b, fn_pure F S hn hN (body f)⟩
theorem has_io (D : DefAt K mg x st ps) (S : FnScope N ps (defScope st)) (hn : ps.length = n + 1) (hN : n + 1 ≤ N.length) (body : Body P w K mg base N x st k AnyB g) : Has P w K mg base x (k + 1) ps (spIO K n (mIO N.length g)) :=
  let ⟨f, fd, m, F, b⟩ := D; ⟨f, fd, m, F.kp, b, fn_io F S hn hN (body f)⟩
theorem has_scrN (D : DefAt K mg x st ps) (S : FnScope N ps (defScope st)) (hn : ps.length = 1) (hN : 1 ≤ N.length) (body : Body P w K mg base N x st k AnyB g) : Has P w K mg base x (k + 1) ps (spScrN K (mScrN N.length g)) :=
  let ⟨f, fd, m, F, b⟩ := D; ⟨f, fd, m, F.kp, b, fn_scrN F S hn hN (body f)⟩
end
section
variable {X : Cx} {pos p p2 py : Pos} {x y : Str} {e : Expr} {es : List Expr} {gs : M (List D)} {k n : Nat} {ps : List Str}
theorem e_callH {f : List D → Option D} (h : Has X.prog X.w X.K X.mg X.base x k ps (spF X.K n f)) (hr : Room k X.A) (ha : GA X (e :: es) gs) (hg : Gl X x := by rfl) (hdb : (x == ("__debug__" : Str)) = false := by decide)
    (he : starEach (e :: es) X.env = (false, eval e X.env) :: starEach es X.env := by rfl) (hpl : (backTo pos (starEach es X.env)).any (·.1) = false := by rfl) : GE X (.Call (.Name x p) (e :: es) [] pos) (gCallF n f gs) :=
  let ⟨fa, fd, m, kp, b, F⟩ := h; e_call F hr m kp b pass0 ha hg hdb he hpl
theorem e_callHIO {f : List D → List D → Option (D × List D)} (i : Nat) (h : Has X.prog X.w X.K X.mg X.base x k ps (spIO X.K n f)) (hr : Room k X.A) (ha : GA X es gs)
    (hN : X.N[i]? = some y := by rfl) (hv : Vis X.env.scope y := by first | exact Or.inl rfl | exact Or.inr (Or.inl rfl) | exact Or.inr (Or.inr rfl)) (hdy : (y == ("__debug__" : Str)) = false := by decide) (hcd : (y == ("__classdict__" : Str)) = false := by decide)
    (hg : Gl X x := by rfl) (hdb : (x == ("__debug__" : Str)) = false := by decide) (he : starEach (.Name y py :: es) X.env = (false, eval (.Name y py) X.env) :: starEach es X.env := by rfl) (hpl : (backTo pos (starEach es X.env)).any (·.1) = false := by rfl) :
    GE X (.Call (.Name x p) (.Name y py :: es) [] pos) (gIO i n f gs) :=
  let ⟨fa, fd, m, kp, b, F⟩ := h; e_callIO i F hr m kp b pass0 ha hN hv hdy hcd hg hdb he hpl
theorem mix_new {F1 H1 F' : Hp} {p : Addr} {o : HO} (hp : mixH F1 H1 (upd F' p o) p = some o) (hn : F' p = none) : mixH F1 H1 (upd F' p o) = upd (mixH F1 H1 F') p o := by
  funext b
  by_cases hb : b = p
  · subst hb; rw [upd_same, hp]
  · rw [upd_ne hb]
    unfold mixH
    rw [upd_ne hb]
def gCallScr (i : Nat) (f : List Int → Option (List D)) : M D := fun S => (scrOf S i).bind fun ns => (f ns).bind fun z => some (.list z, S)
theorem n_callScr {f : List Int → Option (List D)} (i : Nat) (h : Has X.prog X.w X.K X.mg X.base x k ps (spScrN X.K f)) (hr : Room k X.A)
    (hN : X.N[i]? = some y := by rfl) (hv : Vis X.env.scope y := by first | exact Or.inl rfl | exact Or.inr (Or.inl rfl) | exact Or.inr (Or.inr rfl)) (hdy : (y == ("__debug__" : Str)) = false := by decide) (hcd : (y == ("__classdict__" : Str)) = false := by decide)
    (hg : Gl X x := by rfl) (hdb : (x == ("__debug__" : Str)) = false := by decide) (he : starEach [.Name y py] X.env = (false, eval (.Name y py) X.env) :: starEach [] X.env := by rfl) : GN X (.Call (.Name x p) [.Name y py] [] pos) (gCallScr i f) := by
  obtain ⟨fa, fd, m, kp, b, F⟩ := h
  refine ⟨_, pe_callF F hr hg m kp b .nil pass0 (pa_cons (pe_var hN hv hdy hcd) pa_nil he) hdb he (by rfl), fun A F H S σ d S' Q k h post => ?_⟩
  obtain ⟨ns, h1, h⟩ := bind_inv h
  obtain ⟨z, h2, h⟩ := bind_inv h
  cases h
  obtain ⟨hz, a, ev, hs⟩ := scr_at k h1
  refine ⟨_, ev, F, k.sub, a, ns, z, by rfl, hs, hz, h2, k.tab, fun F' L us sm hL ru hz => ⟨fun b xs q => by
      rw [upd_ne (ne_of_none (sm.old b _ q trivial) hL)]; exact sm.old b _ q trivial, fun lost => ?_⟩⟩
  have lostF : ∀ b o, H b = some o → F b = none → F' b = none := fun b o ho hf => by
    have := lost b o ho hf
    by_cases hb : b = L
    · subst hb; exact hL
    · rwa [upd_ne hb] at this
  have hLH : H L = none := by
    cases q : H L with
    | none => rfl
    | some u =>
      cases q2 : F L with
      | none => have := lost L u q q2; rw [upd_same] at this; cases this
      | some v => obtain ⟨v', e'⟩ := sm.stay L v q2; rw [e'] at hL; cases hL
  rw [mix_new (by rw [mix_free hLH, upd_same]) hL]
  exact post A F' _ L us z (List.prefix_refl _) sm (k.mix sm lostF) (by rw [mix_free hLH]; exact hL) rfl ru hz
theorem e_gintE {i : Int} (hm : ∃ t, X.mg x = some (.int i t)) (hg : Gl X x := by rfl) (hd : (x == ("__debug__" : Str)) = false := by decide) : GE X (.Name x pos) (gC (.int i)) := let ⟨_, m⟩ := hm; e_gint m hg hd
theorem e_gstrE {z : Str} (hm : ∃ t, X.mg x = some (.str z t)) (hg : Gl X x := by rfl) (hz : z.length ≤ sizeLine := by decide) (hd : (x == ("__debug__" : Str)) = false := by decide) : GE X (.Name x pos) (gC (.str z)) := let ⟨_, m⟩ := hm; e_gstr m hg hz hd
end
end Fu

set_option maxHeartbeats 4000000
namespace Fu
open PySem PySem.Spec PyProof.Rows L2 RZ
variable [TabsC]

section
variable {K : PySem.W.Frag} {F H : Hp}
end

/-! ### sorted(xs) of data -/
def sortOk (xs : List D) : Bool := (xs.all fun d => xs.all fun e => PySem.W.alike d e) && ((xs.all fun d => match d with
  | .tuple (_ :: _) => true
  | _ => false) || (xs.all fun d => match d with
  | .none => false
  | .tuple _ => false
  | _ => true)) && xs.all fun d => d.depth ≤ 20 && d.canLay0
abbrev leD : D → D → Bool := PySem.W.dataLe false (fun d : D => d)
def dSorted : List D → Option D
  | [.list xs] => if sortOk xs = true then some (.list (xs.mergeSort leD)) else none
  | [.tuple xs] => none
  | _ => none
theorem sortOk_all {xs : List D} (h : sortOk xs = true) : PySem.W.AllAlike xs ∧ PySem.W.Sortable xs ∧ ∀ d ∈ xs, d.depth ≤ 20 ∧ d.canLay0 = true := by
  unfold sortOk at h
  rw [Bool.and_eq_true, Bool.and_eq_true, Bool.or_eq_true] at h
  obtain ⟨⟨h1, h2⟩, h3⟩ := h
  refine ⟨fun d hd e he => List.all_eq_true.mp (List.all_eq_true.mp h1 d hd) e he, ?_, fun d hd => ?_⟩
  · rcases h2 with h2 | h2
    · refine .inl fun d hd => ?_
      have := List.all_eq_true.mp h2 d hd
      split at this
      · exact ⟨_, _, rfl⟩
      · cases this
    · refine .inr fun d hd => ?_
      have := List.all_eq_true.mp h2 d hd
      refine ⟨fun e => ?_, fun ys e => ?_⟩
      · rw [e] at this; cases this
      · rw [e] at this; cases this
  · have := List.all_eq_true.mp h3 d hd
    rw [Bool.and_eq_true] at this
    exact ⟨of_decide_eq_true this.1, this.2⟩
/-- its reading: values and data side by side -/
def rSorted (K : PySem.W.Frag) : List V → Hp → VK → Prop := fun xs H Q => ∃ (a : Addr) (ps : List (V × D)), xs = [.ref a] ∧ SqL K H a (ps.map (·.1)) ∧ (∀ p ∈ ps, Dp K H p.1 p.2) ∧ sortOk (ps.map (·.2)) = true ∧ ps.length ≤ sizeLine ∧
  ∀ p, H p = none → Q (.ref p) (upd H p (.lst ((ps.mergeSort (PySem.W.dataLe false fun q : V × D => q.2)).map (·.1))))
theorem each_mk {X : Cx} {pins : List (Addr × Obj)} {σ : L2.St} {H : Hp} {s : Shared} (I : Inv X pins σ H s) : ∀ {ps : List (V × D)} {us : List Value}, Vals (ps.map (·.1)) us → (∀ p ∈ ps, Dp X.K H p.1 p.2) →
    PySem.W.EachIs (fun (v : Value) (b : V × D) => RelV b.1 v) us ps ∧ PySem.W.EachIs (fun (v : Value) (b : V × D) => ∃ as, Reads s.heap v b.2 as) us ps
  | [], us, r, _ => by cases r; exact ⟨.nil, .nil⟩
  | p :: ps, us, r, h => by
    rw [List.map_cons] at r
    cases r with
    | cons r1 r2 =>
      obtain ⟨a, b⟩ := each_mk I r2 fun q hq => h q (List.mem_cons_of_mem _ hq)
      exact ⟨.cons r1 a, .cons (Dp.reads I _ _ _ (h p List.mem_cons_self) r1) b⟩
theorem each_vals : ∀ {ps : List (V × D)} {us : List Value}, PySem.W.EachIs (fun (v : Value) (b : V × D) => RelV b.1 v) us ps → Vals (ps.map (·.1)) us
  | [], _, .nil => .nil
  | _ :: _, _, .cons r t => .cons r (each_vals t)
theorem call_sortedAll {X : Cx} {k : Nat} (hr : Room k X.A) : CallR X (.builtin "sorted") (rSorted X.K) := by
  intro pins s σ H xs us Q I r h
  obtain ⟨a, ps, rfl, hs, hd, so, hz, q⟩ := h
  obtain ⟨u, rfl, ru⟩ := vals1 r
  cases ru
  obtain ⟨its, rv, pl, hzl⟩ := I.list hs
  obtain ⟨e1, e2⟩ := each_mk I rv hd
  obtain ⟨al, sb, dp⟩ := sortOk_all so
  have hun := hr.un
  refine PySem.W.sorted_data (β := V × D) (enc := fun b => b.2) pl.isList e1 e2 al sb hz (fun b hb => ?_) fun out ho eo => ?_
  · have := (dp b.2 (List.mem_map.mpr ⟨b, hb, rfl⟩)).1
    omega
  · have rv2 := each_vals eo
    obtain ⟨c, hc⟩ := sortedAll_at s.heap its out.toArray
    refine ⟨.ref (s.heap.objs.size + 1), _, I.laid (t' := s.toks) (o := .lst ((ps.mergeSort (PySem.W.dataLe false fun q : V × D => q.2)).map (·.1))) (fun b o hb => sortedAll_old hb) (Nat.le_succ _) ⟨?_, out, c, rv2, hc⟩, rfl, q _ (I.hok.fresh (Nat.le_succ _))⟩
    rw [List.length_map, List.length_mergeSort]
    exact hz
theorem zip_rps {K : PySem.W.Frag} {F : Hp} : ∀ {vs : List V} {ds : List D}, Rps K F vs ds → (vs.zip ds).map (·.1) = vs ∧ (vs.zip ds).map (·.2) = ds ∧ ∀ p ∈ vs.zip ds, Rp K F p.1 p.2
  | _, [], h => by cases h; exact ⟨rfl, rfl, fun p hp => by cases hp⟩
  | _, d :: ds, h => by
    cases h with
    | cons h1 h2 =>
      obtain ⟨a, b, c⟩ := zip_rps h2
      refine ⟨by rw [List.zip_cons_cons, List.map_cons, a], by rw [List.zip_cons_cons, List.map_cons, b], fun p hp => ?_⟩
      rw [List.zip_cons_cons] at hp
      rcases List.mem_cons.mp hp with rfl | hp
      · exact h1
      · exact c p hp
theorem rps_zip {K : PySem.W.Frag} {F : Hp} : ∀ {ps : List (V × D)}, (∀ p ∈ ps, Rp K F p.1 p.2) → Rps K F (ps.map (·.1)) (ps.map (·.2))
  | [], _ => .nil
  | p :: ps, h => .cons (h p List.mem_cons_self) (rps_zip fun q hq => h q (List.mem_cons_of_mem _ hq))
theorem rd_sorted {K : PySem.W.Frag} : RdC K (rSorted K) dSorted := by
  intro A F H S σ xs ds z Q k r h post
  unfold dSorted at h
  split at h
  · split at h
    · rename_i ys hso
      cases h
      obtain ⟨v, rfl, rv⟩ := rps1 r
      obtain ⟨a, vs, rfl, h1, h2, h3⟩ := rp_list_inv rv
      obtain ⟨z1, z2, z3⟩ := zip_rps h2
      have hl : (vs.zip ys).length = ys.length := by rw [List.length_zip, h2.length]; omega
      refine ⟨a, vs.zip ys, rfl, SqL.of (by rw [z1]; exact k.sub.same _ _ h1), fun p hp => ?_, by rw [z2]; exact hso, by rw [hl]; exact h3, fun p hp => ?_⟩
      · exact Rp.dp _ _ ((sortOk_all hso).2.2 p.2 (by rw [← z2]; exact List.mem_map.mpr ⟨p, hp, rfl⟩)).2 ((z3 p hp).mono k.sub.same.t _ _)
      · have e2 : ((vs.zip ys).mergeSort (PySem.W.dataLe false fun q : V × D => q.2)).map (·.2) = ys.mergeSort leD := by
          have := List.map_mergeSort (s := leD) (r := PySem.W.dataLe false fun q : V × D => q.2) (f := fun q : V × D => q.2) (l := vs.zip ys) (fun a _ b _ => rfl)
          rw [this, z2]
        have rr := rps_zip (K := K) (F := F) (ps := (vs.zip ys).mergeSort (PySem.W.dataLe false fun q : V × D => q.2)) fun p hp => z3 p (List.mem_mergeSort.mp hp)
        rw [e2] at rr
        obtain ⟨s1, k1, r1⟩ := k.newList hp rr (by rw [List.length_mergeSort]; exact h3)
        exact post _ _ _ s1 k1 r1
    · cases h
  · cases h
  · cases h

/-! ### max(xs), min(xs) of data -/
/-! ### sum(xs) of ints -/
def allInts : List D → Option (List Int)
  | [] => some []
  | .int b :: ds => (allInts ds).bind fun bs => some (b :: bs)
  | _ => none
theorem allInts_map : ∀ {ds : List D} {bs : List Int}, allInts ds = some bs → ds = bs.map .int
  | [], _, h => by cases h; rfl
  | .int b :: ds, _, h => by
    obtain ⟨bs, h1, h2⟩ := bind_inv h
    cases h2
    rw [List.map_cons, allInts_map h1]
  | .none :: _, _, h => by simp [allInts] at h
  | .bool _ :: _, _, h => by simp [allInts] at h
  | .str _ :: _, _, h => by simp [allInts] at h
  | .list _ :: _, _, h => by simp [allInts] at h
  | .tuple _ :: _, _, h => by simp [allInts] at h
  | .dict _ :: _, _, h => by simp [allInts] at h
theorem allInts_of : ∀ bs : List Int, allInts (bs.map .int) = some bs
  | [] => rfl
  | b :: bs => by
    show (allInts (bs.map .int)).bind _ = _
    rw [allInts_of bs]; rfl
theorem rps_ints {K : PySem.W.Frag} {F : Hp} : ∀ {vs : List V} {bs : List Int}, Rps K F vs (bs.map .int) → vs = bs.map V.int
  | _, [], h => by cases h; rfl
  | _, b :: bs, h => by
    cases h with
    | cons h1 h2 => rw [rp_int_inv h1, rps_ints h2]; rfl
section
variable {X : Cx} {pos p p2 : Pos} {e : Expr} {es : List Expr} {gs : M (List D)} {k : Nat}
theorem e_sorted (hr : Room k X.A) (hm : X.mg "sorted" = none) (ha : GA X [e] gs) (hg : Gl X "sorted" := by rfl) (he : starEach [e] X.env = (false, eval e X.env) :: starEach [] X.env := by rfl) : GE X (.Call (.Name "sorted" p) [e] [] pos) (gCall dSorted gs) :=
  e_callB (call_sortedAll hr) rd_sorted hm (by decide +kernel) ha hg (he := he) (hpl := by rfl)
end
end Fu

set_option maxHeartbeats 4000000
namespace Fu
open PySem PySem.Spec PyProof.Rows L2
variable [TabsC]
/-! ### list(range(..)), xs[::-1], len(set(ints)) -/
section
variable {X : Cx} {pos p p2 p3 p4 : Pos} {a b e e2 : Expr} {ga gb ge ge2 : M D}
theorem rps_rg {K : PySem.W.Frag} {F : Hp} (lo hi : Int) : Rps K F (rgV lo hi) (rng lo (hi - lo).toNat) := by
  have h := Rps.ints (K := K) (H := F) ((List.range (hi - lo).toNat).map fun i : Nat => lo + (i : Int))
  rw [List.map_map, List.map_map] at h
  exact h
def gListRng1 (g : M D) : M D := fun S => (g S).bind fun q => match q.1 with
  | .int j => if -4611686018427387904 ≤ j ∧ j ≤ 16777216 then some (.list (rng 0 j.toNat), q.2) else none
  | _ => none
theorem n_listRng1 (hm : X.mg "list" = none) (hr : X.mg "range" = none) (ha : GE X e ge) (hc : X.calm = true := by rfl) (hg : Gl X "list" := by rfl) (hg2 : Gl X "range" := by rfl)
    (hs : starEach [e] X.env = (false, eval e X.env) :: starEach [] X.env := by rfl) (hs2 : starEach [.Call (.Name "range" p2) [e] [] p3] X.env = (false, eval (.Call (.Name "range" p2) [e] [] p3) X.env) :: starEach [] X.env := by rfl) :
    GN X (.Call (.Name "list" p) [.Call (.Name "range" p2) [e] [] p3] [] pos) (gListRng1 ge) := by
  obtain ⟨_, pa, ra⟩ := ha.ex
  refine ⟨_, pe_listRg hc hg hm (prg_1 hg2 hr pa hs) hs2, fun A F H S σ d S' Q k h post => ?_⟩
  obtain ⟨⟨x, S1⟩, h1, h⟩ := bind_inv h
  cases x with
  | int j =>
    simp only at h
    split at h
    · rename_i hj
      cases h
      refine ra A F H S σ _ _ _ k h1 fun A1 F1 H1 v s1 f1 k1 r1 => ?_
      cases rp_int_inv r1
      refine ⟨j, rfl, ⟨by omega, by omega, by omega, by omega, by omega⟩, fun q hq => post A1 F1 H1 q _ _ s1 f1 k1 hq rfl ?_ ?_⟩
      · have := rps_rg (K := X.K) (F := F1) 0 j
        rwa [Int.sub_zero] at this
      · rw [rng_len, sizeLine_eq]; omega
    · cases h
  | _ => cases h
def dRevL : D → Option D
  | .list xs => some (.list xs.reverse)
  | _ => none
theorem n_revL {k : Nat} (ha : GE X e ge) : GN X (.Subscript e (.Slice none none (some (.UnaryOp .USub (.Constant (.int 1) k p) p2)) p3) pos) (gUn dRevL ge) := by
  obtain ⟨_, pa, ra⟩ := ha.ex
  refine ⟨_, pe_revL pa, fun A F H S σ d S' Q k h post => ?_⟩
  obtain ⟨⟨x, S1⟩, h1, h⟩ := bind_inv h
  obtain ⟨z, h2, h⟩ := bind_inv h
  cases h
  cases x <;> simp only [dRevL] at h2 <;> cases h2
  refine ra A F H S σ _ _ _ k h1 fun A1 F1 H1 v s1 f1 k1 r1 => ?_
  obtain ⟨l, vs, rfl, g1, g2, g3⟩ := rp_list_inv r1
  exact ⟨l, vs, rfl, SqL.of (k1.sub.same _ _ g1), fun q hq => post A1 F1 H1 q _ _ s1 f1 k1 hq rfl g2.reverse (by rw [List.length_reverse]; exact g3)⟩
/-- how many unlike ones -/
def unlike (ns : List Int) : Nat := (PyProof.Rows.firstMet (fun i => ns.getD i 0) ns.length).length
def tManyI (K : PySem.W.Frag) (ta : TE) : TE := fun σ H Q => ta σ H fun x H1 => ∃ (l : Addr) (ns : List Int), x = .ref l ∧ SqL K H1 l (ns.map V.int) ∧ ns.length ≤ 4000 ∧ Q (.int (unlike ns : Nat)) H1
theorem pe_manyI {ta : TE} (g1 : Gl X "len") (m1 : X.mg "len" = none) (g2 : Gl X "set") (m2 : X.mg "set" = none) (ha : PE X e ta) (hc : X.calm = true) (na : starEach [e] X.env = (false, eval e X.env) :: starEach [] X.env) :
    PE X (.Call (.Name "len" p) [.Call (.Name "set" p2) [e] [] p3] [] pos) (tManyI X.K ta) := ⟨fun ps s σ H Q I h => by
  refine Call_ (ld_blt I g1 m1 boot_len (PyProof.Rows.callWith_builtin1 (PyProof.Rows.args_cons ?_ rfl) rfl rfl))
  refine Call_ (ld_blt I g2 m2 boot_set (PyProof.Rows.callWith_type1 (PyProof.Rows.args_cons ?_ na) na rfl))
  refine thn (ha.run ps s σ H _ I h) fun v t ⟨x, G, J, r, q⟩ => PyProof.Rows.args_nil ?_
  obtain ⟨l, ns, ex, hl, hz, q⟩ := q
  subst ex
  cases r
  obtain ⟨its, ri, pl, _⟩ := J.list hl
  have hn : its.toArray.size = ns.length := by rw [List.size_toArray, ← ri.length, List.length_map]
  have hb : its.toArray.size + 1 < scanBound := by rw [hn]; unfold scanBound; omega
  refine call_set_list (J.ok.hd hc) pl.isList (by simpa using RZ.intsAre_vals ri) hb fun h' tk st keep => PyProof.Rows.args_nil ?_
  rw [hn] at st
  obtain ⟨o, es, ep, tb, ho, hex, hd, _, _, _, hf, hcount⟩ := st
  have hle : unlike ns ≤ ns.length := PyProof.Rows.firstMet_length_le _ _
  have J2 : Inv X ps σ G { t with heap := h', toks := tk } := J.kept fun c u eu => keep c u (Heap.lt_size eu) eu
  exact call_len_set ho hex hd hf (by rw [hcount]; unfold unlike at hle; omega) ⟨.int (unlike ns), G, J2.tok _, ⟨_, by rw [hcount]; rfl⟩, q⟩⟩
def dLenSet : D → Option D
  | .list ds => (allInts ds).bind fun ns => if ns.length ≤ 4000 then some (.int (unlike ns : Nat)) else none
  | _ => none
theorem e_lenSet (m1 : X.mg "len" = none) (m2 : X.mg "set" = none) (ha : GE X e ge) (hc : X.calm = true := by rfl) (g1 : Gl X "len" := by rfl) (g2 : Gl X "set" := by rfl) (na : starEach [e] X.env = (false, eval e X.env) :: starEach [] X.env := by rfl) :
    GE X (.Call (.Name "len" p) [.Call (.Name "set" p2) [e] [] p3] [] pos) (gUn dLenSet ge) := by
  obtain ⟨_, pa, ra⟩ := ha.ex
  refine ⟨_, pe_manyI g1 m1 g2 m2 pa hc na, fun A F H S σ d S' Q k h post => ?_⟩
  obtain ⟨⟨x, S1⟩, h1, h⟩ := bind_inv h
  obtain ⟨z, h2, h⟩ := bind_inv h
  cases h
  cases x <;> simp only [dLenSet] at h2 <;> try cases h2
  obtain ⟨ns, h3, h2⟩ := bind_inv h2
  split at h2
  · rename_i hz
    cases h2
    refine ra A F H S σ _ _ _ k h1 fun A1 F1 H1 v s1 f1 k1 r1 => ?_
    obtain ⟨l, vs, rfl, q1, q2, q3⟩ := rp_list_inv r1
    have e := allInts_map h3
    subst e
    cases rps_ints q2
    exact ⟨l, ns, rfl, SqL.of (k1.sub.same _ _ q1), hz, post A1 F1 H1 _ s1 f1 k1 (.int _)⟩
  · cases h2
end
end Fu

set_option maxHeartbeats 4000000
namespace Fu
open PySem PySem.Spec PyProof.Rows L2
variable [TabsC]
/-! ### promises of functions that may ask what is being shown: with no show under way around them -/
structure FnG (P : Program) (w : World) (K : PySem.W.Frag) (mg : Str → Option Value) (base : Heap) (k : Nat) (fa : Addr) (fd : FuncData) (ps : List Str) (sp : Sp) : Prop where
  len : ∀ vs H Q E, sp vs H Q E → vs.length = ps.length
  go : ∀ (A : Around) (out : List Env) (t : Shared) (H : Hp) (ar : Args) (us : List Value) (vs : List V) (Q : VK) (E : XK), Room k A → A.guards = some [] → Env0 P w K mg base A out t H → BindsTo t fd ar (ps.zip us) → Vals vs us → sp vs H Q E →
    codeAny (model P w) A (.call (.ref fa) ar) (CR CX0 out P w H t Q E) t
section
variable {P : Program} {w : World} {K : PySem.W.Frag} {mg : Str → Option Value} {base : Heap} {x qual : Str} {st : Stmt} {f : Addr} {fd : FuncData} {N ps : List Str} {k n : Nat} {sp : Sp}
theorem FnG.of (F : FnOk P w K mg base CX0 k f fd ps sp) : FnG P w K mg base k f fd ps sp := ⟨F.len, fun A out t H ar us vs Q E hr _ => F.run A out t H ar us vs Q E hr⟩
theorem fun_okG (F : L2.Fun K x qual st f fd) (S : FnScope N ps (defScope st)) (len : ∀ vs H Q E, sp vs H Q E → vs.length = ps.length)
    (hb : ∀ (cdv : Value) (A : Around) (out : List Env) (t : Shared) (H : Hp) (vs : List V) (Q : VK) (E : XK), Room k (A.deeper (envOfC qual (defScope st) t.heap.objs.size f cdv)) → A.guards = some [] → sp vs H Q E →
      ∃ u, PSs (cxOf CX0 P w K mg base N qual (defScope st) f cdv A out t H E).nox (defBody st) u ∧ u { nx := fun _ G => Q .non G, rt := Q } (start N vs) H) : FnG P w K mg base (k + 1) f fd ps sp := by
  obtain ⟨oc, od, kV, doc, pm, an, cdv, ct, osl, rfl, lk, hcd⟩ := F.ex
  refine ⟨len, fun A out t H ar us vs Q E hr hg e0 hbd hv hs => ?_⟩
  have many := len _ _ _ _ hs
  have inK : K.In t.heap := e0.mod.kin.keeps fun b o z => (e0.bs b o z).1
  have nol : t.heap.NoLimit := e0.mod.nolimit.keeps fun b o z => (e0.bs b o z).1
  have kinds : ∀ q ∈ ps.zip us, (defScope st).names.lookup q.1 = some .local ∨ ((defScope st).names.lookup q.1 = some .cell ∧ ((cellsFrom (t.heap.objs.size + 1) (defScope st).names []).lookup q.1).isSome = true) := by
    rintro ⟨m, v⟩ hq
    exact (S.par m (List.of_mem_zip hq).1).imp id fun z => ⟨z, PySem.W.cellsFrom_some _ _ _ (.inl z)⟩
  refine codeAny_call_function hr.depth (inK _ _ lk) rfl S.co S.gen rfl (PySem.W.codeRec_of inK hcd) (hbd _ _ _ _ ?_)
  refine wpAny_newFunctionEnv_cells S.kind kinds fun en hen t1 made => ?_
  subst hen
  refine ⟨nol.keeps made.toInCall.keep, codeAny_func ?_⟩
  obtain ⟨u, hu, q⟩ := hb cdv A out t H vs Q E (hr.deeper _) hg hs
  have J : Inv (cxOf CX0 P w K mg base N qual (defScope st) f cdv A out t H E) [] (start N vs) H t1 := inv_start S hr.hd e0 many hv made
  have back : ∀ {σ : L2.St} {G : Hp} {v : V} {z : Value} {t2 : Shared}, Inv (cxOf CX0 P w K mg base N qual (defScope st) f cdv A out t H E) [] σ G t2 → RelV v z → Q v G → CE out P w H t Q z t2 := fun {σ G v z t2} I r p => ⟨v, G, I.os, I.bare, I.base, I.hok, r, p⟩
  refine wpAny_mono (hu.nox.run [] t1 (start N vs) H _ J q) (fun fl t2 z => ?_) fun e t2 z => z
  cases fl with
  | next =>
    obtain ⟨σ, G, I, p⟩ := z
    exact back (v := V.non) (z := Value.none) I rfl p
  | ret y =>
    obtain ⟨v, σ, G, I, r, p⟩ := z
    exact back I r p
  | cont => exact z.elim fun _ z => z.elim fun _ z => z.2.elim
  | brk => exact z.elim fun _ z => z.elim fun _ z => z.2.elim
end
section
variable {X : Cx} {k : Nat} {f : Addr} {fd : FuncData} {ps : List Str} {sp : Sp} {E : XK} {x : Str} {p pos : Pos} {e : Expr} {es : List Expr} {t : TA}
end
/-! ### the law's call, from such a promise -/
theorem law_callG {P : Program} {w : World} {K : PySem.W.Frag} {mg mb : Str → Option Value} {k : Nat} {fa ad : Addr} {fd : FuncData} {x : Str} {sp : Sp} {t : Shared} {us : List Value} {ms : List Int}
    (inK : K.In t.heap) (gl : t.heap.Ns mainGlobals mg) (bl : t.heap.Ns builtinsNs mb) (boot : ∀ y : Str, y ≠ "__name__" → mb y = bootBuiltins y) (nol : t.heap.NoLimit) (ng : t.gens = #[])
    (scr : t.heap.get? ad = some { cls := .type "list", data := .seq us.toArray }) (isI : IntsAre us ms) (few : ms.length ≤ sizeLine) (rm : Room k callerA)
    (F : ∀ b : Heap, K.In b → b.Ns mainGlobals mg → FnG P w K mg b k fa fd [x] sp) (bd : ∀ (q : Shared) (u : Value), BindsTo q fd ⟨[u], []⟩ [(x, u)])
    (due : ∀ G : Hp, Only G → SqL K G ad (ms.map V.int) → sp [.ref ad] G (fun v _ => v = .bl true) fun _ _ _ => False) :
    codeAny (model P w) callerA (.call (.ref fa) ⟨[.ref ad], []⟩) (fun r q => r = .ok (.ret (.bool true)) ∧ OldK t.heap q.heap ∧ q.os = t.os ∧ AllBare q.gens) t := by
  have vals := vals_ints isI
  have size := isI.length
  have main : ∀ G : Hp, Only G → SqL K G ad (ms.map V.int) → HOk P w G t.heap → (∀ b, G b ≠ none → b = ad) → (G ad ≠ none → K.lookup ad = none) →
      codeAny (model P w) callerA (.call (.ref fa) ⟨[.ref ad], []⟩) (fun r q => r = .ok (.ret (.bool true)) ∧ OldK t.heap q.heap ∧ q.os = t.os ∧ AllBare q.gens) t := by
    intro G only sq okG one free
    have put : ∀ {c : Addr} {o : Obj}, t.heap.get? c = some o → G c = none → (hidT t.heap G).get? c = some o := fun a b => hidT_get a b
    have noD : ∀ {c : Addr} {o : Obj} {es : Array DictEntry} {ep : Nat}, t.heap.get? c = some o → o.data = .dict es ep → G c = none := by
      intro c o es ep h1 h2
      cases z : G c with
      | none => rfl
      | some u =>
        obtain rfl : c = ad := one c (by rw [z]; simp)
        rw [scr] at h1
        cases h1
        exact absurd (show Data.seq us.toArray _ = Data.dict es ep from h2) (fun y => nomatch y)
    have space : ∀ {c : Addr} {m : Str → Option Value}, t.heap.Ns c m → (hidT t.heap G).Ns c m := by
      rintro c m ⟨o, es, ep, h1, h2, h3⟩
      exact ⟨o, es, ep, put h1 (noD h1 h2), h2, h3⟩
    have inB : K.In (hidT t.heap G) := by
      intro c o h1
      refine put (inK c o h1) ?_
      cases z : G c with
      | none => rfl
      | some u =>
        obtain rfl : c = ad := one c (by rw [z]; simp)
        rw [free (by rw [z]; simp)] at h1
        cases h1
    have md : Mod K mg (hidT t.heap G) := by
      obtain ⟨mc, h1, h2⟩ := nol
      exact ⟨inB, space gl, ⟨mb, space bl, boot⟩, ⟨mc, space h1, h2⟩⟩
    have ev : Env0 P w K mg (hidT t.heap G) callerA [] t G := ⟨rfl, md, fun c o z => of_hidT z, Nat.le_of_eq (hidT_size _ _), trivial, (fun c z => (List.not_mem_nil (show c ∈ ([] : List Addr) from z)).elim), okG, .of_eq ng⟩
    refine codeAny_mono ((F _ inB (space gl)).go callerA [] t G ⟨[.ref ad], []⟩ [.ref ad] [.ref ad] _ _ rm rfl ev (bd t (.ref ad)) (.cons rfl .nil) (due G only sq)) fun z q y => ?_
    cases z with
    | error e => exact (show False from y).elim
    | ok fl =>
      cases fl with
      | ret u =>
        obtain ⟨v, G', osE, bareE, un, okG', rel, vt⟩ := y
        have vt : v = .bl true := vt
        subst vt
        obtain rfl : u = Value.bool true := rel
        refine ⟨rfl, OldK.of_keep fun c o h1 => ?_, osE, bareE⟩
        cases z : G c with
        | none => exact un.keep c o h1 z (fun h => List.not_mem_nil (show c ∈ ([] : List Addr) from h)) (by simp)
        | some u =>
          rcases only c with h2 | ⟨oc, xs, h2⟩
          · rw [z] at h2; cases h2
          · have h3 := un.frzs c oc _ h2
            have h4 := (okG c _ h2).1
            have h5 := (okG' c _ h3).1
            rw [h1] at h4
            cases h4
            exact h5
      | next => exact y.elim
      | cont => exact y.elim
      | brk => exact y.elim
  cases hk : K.lookup ad with
  | some o =>
    have z := inK ad o hk
    rw [scr] at z
    cases z
    exact main (fun _ => none) (fun _ => .inl rfl) (.inr ⟨_, us.toArray, _, hk, rfl, rfl, rfl, by rw [List.size_toArray, size]; exact few, by simpa using vals⟩) (fun c u z => nomatch (show (none : Option HO) = some u from z)) (fun c z => absurd rfl z) fun z => absurd rfl z
  | none =>
    refine main (fun c => if c = ad then some (.frz { cls := .type "list", data := .seq us.toArray } (.lst (ms.map V.int))) else none) ?_ (.inl (.inr ⟨{ cls := .type "list", data := .seq us.toArray }, if_pos rfl⟩)) ?_ ?_ fun _ => hk
    · intro c
      by_cases hc : c = ad
      · exact .inr ⟨_, _, if_pos hc⟩
      · exact .inl (if_neg hc)
    · intro c u z
      by_cases hc : c = ad
      · have y := (if_pos hc).symm.trans z
        cases y
        subst hc
        exact ⟨scr, by rw [List.length_map]; exact few, us, _, vals, scr⟩
      · have y := (if_neg hc).symm.trans z
        cases y
    · intro c z
      by_cases hc : c = ad
      · exact hc
      · exact absurd (if_neg hc) z
theorem walk_ofG {l : PySem.W.OpenLaw} {n k : Nat} {q : Program} {loose : List Str} {XP : (Str → Option Value) → Heap → Prop} {YP : World → Heap → Prop} {d : DefRec} {K : Params → PySem.W.Frag} {sp : World → Sp} {x : Str}
    (hn : l.most = some n) (hn2 : n ≤ sizeLine) (hdf : d.params.defaults = []) (rm : Room k callerA) (hY : ∀ (w : World) (h : Heap), YP w h → (K w.params).In h)
    (F : ∀ (w : World) (mg : Str → Option Value) (fa : Addr) (h : Heap), (K w.params).In h → h.Ns mainGlobals mg → mg d.name = some (.ref fa) →
      ∃ fd : FuncData, (∀ (s : Shared) (u : Value), BindsTo s fd ⟨[u], []⟩ [(x, u)]) ∧ ∀ b : Heap, (K w.params).In b → b.Ns mainGlobals mg → FnG l.prog w (K w.params) mg b k fa fd [x] (sp w))
    (due : ∀ (w : World) (G : Hp) (ad : Addr) (ms : List Int), ms.length ≤ n → Only G → SqL (K w.params) G ad (ms.map V.int) → sp w [.ref ad] G (fun v _ => v = .bl true) fun _ _ _ => False) :
    PySem.W.WalkO q loose XP YP l.row.toRowW d [] (fun f vs => PySem.call f vs) := by
  refine Att.attach_call hn hdf fun w s0 t mg mb fa o pm cd doc ad us ms g Y h1 h2 h3 h4 h5 h6 h7 h8 => ?_
  obtain ⟨fd, bd, FF⟩ := F w mg fa _ (hY w _ Y) g.T.g h4
  exact law_callG (hY w _ Y) g.T.g g.T.b g.T.builtins g.T.nolimit h8 h5 h6 (Nat.le_trans h7 hn2) rm FF bd fun G a b => due w G ad ms h7 a b
end Fu

set_option maxHeartbeats 4000000
namespace Fu
open PySem PySem.Spec PyProof.Rows L2
variable [TabsC]
/-! ### defs whose promise wants that no show is under way -/
section
variable {P : Program} {w : World} {K : PySem.W.Frag} {mg : Str → Option Value} {base : Heap} {x qual : Str} {st : Stmt} {f : Addr} {fd : FuncData} {N ps : List Str} {k n : Nat} {g : Sx → Option Out}
theorem fn_lawG {Pb : Hp → Prop} (hPb : ∀ B, NoLst B → Pb B) (F : Fun K x qual st f fd) (S : FnScope N ps (defScope st)) (hn : ps.length = 1) (hN : 1 ≤ N.length)
    (body : ∀ (cdv : Value) (A : Around) (outer : List Env) (s : Shared) (H : Hp) (E : XK), Room k (A.deeper (envOfC qual (defScope st) s.heap.objs.size f cdv)) → A.guards = some [] → GSs (cxF P w K mg base N qual st f cdv A outer s H E) Pb (defBody st) g) :
    FnG P w K mg base (k + 1) f fd ps (spLaw K (mScr N.length g)) := by
  refine fun_okG F S (fun vs H Q E h => by obtain ⟨a, ns, rfl, _⟩ := h; exact hn.symm) fun cdv A outer s H vs Q E hr hgd h => ?_
  obtain ⟨a, ns, rfl, hs, hz, hB, e, tb, post⟩ := h
  obtain ⟨t, p, rd⟩ := (body cdv A outer s H E hr hgd).ex
  refine ⟨t, p, ?_⟩
  obtain ⟨o, e1, e⟩ := bind_inv e
  refine rd H [] [] H H _ _ o _ (hPb H hB) (SameT.refl H) (List.prefix_refl _) (start_scr hs hz hN tb) e1 ?_
  cases o with
  | nx S => cases e
  | rt d S =>
    cases e
    intro A1 F1 H1 σ1 v s1 p1 k1 rv
    cases rv
    exact post H1
  | bk S => cases e
  | ct S => cases e
  | ro j S => cases e
end
section
variable {X : Cx} {pos p p2 : Pos} {x : Str} {e : Expr} {es : List Expr} {gs : M (List D)} {f : List D → Option D} {k n : Nat} {fa : Addr} {fd : FuncData} {ps : List Str} {E : XK}
end
section
variable {P : Program} {w : World} {K : PySem.W.Frag} {mg : Str → Option Value} {base : Heap} {x : Str} {st : Stmt} {N ps : List Str} {k n : Nat} {g : Sx → Option Out}
abbrev BodyG (P : Program) (w : World) (K : PySem.W.Frag) (mg : Str → Option Value) (base : Heap) (N : List Str) (x : Str) (st : Stmt) (k : Nat) (Pb : Hp → Prop) (g : Sx → Option Out) : Prop :=
  ∀ (f : Addr) (cdv : Value) (A : Around) (outer : List Env) (s : Shared) (H : Hp) (E : XK), Room k (A.deeper (envOfC x (defScope st) s.heap.objs.size f cdv)) → A.guards = some [] → GSs (cxF P w K mg base N x st f cdv A outer s H E) Pb (defBody st) g
end
section
variable {X : Cx} {pos p p2 py : Pos} {x y : Str} {e : Expr} {es : List Expr} {gs : M (List D)} {k n : Nat} {ps : List Str}
end
end Fu

set_option maxHeartbeats 4000000
namespace Fu
open PySem PySem.Spec PyProof.Rows L2
variable [TabsC]
/-! ### repr of lists and tuples -/
def showOk (d : D) : Bool := d.showable && !d.hasDict && d.canLay0 && decide (d.depth ≤ 60) && decide (d.shown.length ≤ 16777216)
theorem showOk_all {d : D} (h : showOk d = true) : d.showable = true ∧ d.hasDict = false ∧ d.canLay0 = true ∧ d.depth ≤ 60 ∧ d.shown.length ≤ sizeLine := by
  unfold showOk at h
  simp only [Bool.and_eq_true, decide_eq_true_eq, Bool.not_eq_true'] at h
  exact ⟨h.1.1.1.1, h.1.1.1.2, h.1.1.2, h.1.2, by rw [sizeLine_eq]; exact h.2⟩
def rRepr (K : PySem.W.Frag) : List V → Hp → VK → Prop := fun xs H Q => ∃ (a : Addr) (d : D), xs = [.ref a] ∧ Dp K H (.ref a) d ∧ showOk d = true ∧ Q (.str d.shown) H
theorem call_reprD {X : Cx} {k : Nat} (hr : Room k X.A) (hgd : X.A.guards = some []) : CallR X (.builtin "repr") (rRepr X.K) := by
  intro pins s σ H xs us Q I r h
  obtain ⟨a, d, rfl, hd, ok, q⟩ := h
  obtain ⟨u, rfl, ru⟩ := vals1 r
  cases ru
  obtain ⟨h1, h2, h3, h4, h5⟩ := showOk_all ok
  obtain ⟨as, rd⟩ := Dp.reads I d _ _ hd rfl
  have hun := hr.un
  exact repr_of_reads' rd h1 (fun e => by rw [h2] at e; cases e) hgd (by omega) (fun _ _ e => e) (fun h' u tk keep => ⟨.str d.shown, H, I.kept (t' := tk) keep, ⟨u, rfl⟩, q⟩) h5
/-- .. and of what is no display -/
def rRepr1 : List V → Hp → VK → Prop := fun xs H Q => (xs = [.non] ∧ Q (.str "None") H) ∨ (∃ x, xs = [.str x] ∧ (reprText x).length ≤ sizeLine ∧ Q (.str (reprText x)) H) ∨ (∃ i : Int, xs = [.int i] ∧ i.natAbs.log2 < 1920 ∧ Q (.str (toString i)) H) ∨ (∃ a, xs = [.ref a] ∧ H a = some (.dK []) ∧ Q (.str (PyData.dict []).shown) H)
theorem call_repr1 {X : Cx} {k : Nat} (hr : Room k X.A) (hgd : X.A.guards = some []) : CallR X (.builtin "repr") rRepr1 := by
  intro pins s σ H xs us Q I r h
  rcases h with ⟨rfl, q⟩ | ⟨x, rfl, hl, q⟩ | ⟨i, rfl, hi, q⟩ | ⟨a, rfl, ha, q⟩
  · obtain ⟨u, rfl, ru⟩ := vals1 r
    cases ru
    exact call_repr_gives (typeIs_none s) PySem.F.slot_NoneType_repr PySem.F.entry_NoneType_repr (PySem.F.args_NoneType_repr_1 _) gives_none_repr ⟨.str "None", H, I.kept (t' := s.toks + 1) (fun _ _ z => z), ⟨_, rfl⟩, q⟩
  · obtain ⟨u, rfl, ru⟩ := vals1 r
    obtain ⟨t, rfl⟩ := ru
    exact PySem.P.repr_of_str ⟨.str (reprText x), H, I.kept (t' := s.toks + 1) (fun _ _ z => z), ⟨_, rfl⟩, q⟩ hl
  · exact SkE.call_repr_int pins s σ H _ us Q I r ⟨i, rfl, hi, q⟩
  · obtain ⟨u, rfl, ru⟩ := vals1 r
    cases ru
    obtain ⟨_, hs, vs, kv, o, es, ep, e1, e2, e3, e4, e5, e6⟩ := (show ObjOk X.prog X.w H s.heap a (.dK []) from I.hok a _ ha)
    have hun := hr.un
    cases kv
    have he : es.toList = [] := by
      revert e5
      generalize es.toList = l
      intro e5
      cases e5; rfl
    have rd : Reads s.heap (.ref a) (.dict []) [a] := Reads.dict (as := []) (bs := []) e1 e2.1 e3 (by rw [he]; exact .nil) (by rw [he]; exact .nil)
    refine repr_of_reads' rd (by rfl) (fun _ hm => ?_) hgd (by
      have : PyData.depth (.dict []) ≤ 60 := (by decide +kernel)
      omega) (fun _ _ e => e) (fun h' u tk keep => ⟨.str _, H, I.kept (t' := tk) keep, ⟨u, rfl⟩, q⟩) (by decide +kernel)
    rw [List.mem_singleton.mp hm] at hs
    simp at hs
def dRepr : List D → Option D
  | [.none] => some (.str "None")
  | [.str x] => if (reprText x).length ≤ sizeLine then some (.str (reprText x)) else none
  | [.int i] => if i.natAbs.log2 < 1920 ∧ (Str.ofString (toString i)).length ≤ sizeLine then some (.str (Str.ofString (toString i))) else none
  | [.dict []] => some (.str (PyData.dict []).shown)
  | [.list xs] => if showOk (.list xs) = true then some (.str (PyData.list xs).shown) else none
  | [.tuple xs] => if showOk (.tuple xs) = true then some (.str (PyData.tuple xs).shown) else none
  | _ => none
def rRepr2 (K : PySem.W.Frag) : List V → Hp → VK → Prop := fun xs H Q => rRepr K xs H Q ∨ rRepr1 xs H Q
theorem call_repr2 {X : Cx} {k : Nat} (hr : Room k X.A) (hgd : X.A.guards = some []) : CallR X (.builtin "repr") (rRepr2 X.K) := fun pins s σ H xs us Q I r h => h.elim (call_reprD hr hgd pins s σ H xs us Q I r) (call_repr1 hr hgd pins s σ H xs us Q I r)
theorem rd_repr {K : PySem.W.Frag} : RdC K (rRepr2 K) dRepr := by
  intro A F H S σ xs ds z Q k r h post
  unfold dRepr at h
  split at h
  · cases h
    obtain ⟨v, rfl, rv⟩ := rps1 r
    cases rv
    exact .inr (.inl ⟨rfl, post F H _ (SameT.refl F) k (.str (by decide))⟩)
  · split at h
    · rename_i x hz
      cases h
      obtain ⟨v, rfl, rv⟩ := rps1 r
      obtain ⟨rfl, _⟩ := rp_str_inv rv
      exact .inr (.inr (.inl ⟨x, rfl, hz, post F H _ (SameT.refl F) k (.str hz)⟩))
    · cases h
  · split at h
    · rename_i i hz
      cases h
      obtain ⟨v, rfl, rv⟩ := rps1 r
      cases rp_int_inv rv
      exact .inr (.inr (.inr (.inl ⟨i, rfl, hz.1, post F H _ (SameT.refl F) k (.str hz.2)⟩)))
    · cases h
  · cases h
    obtain ⟨v, rfl, rv⟩ := rps1 r
    cases rv with
    | dct h1 h2 _ => exact .inr (.inr (.inr (.inr ⟨_, rfl, k.sub.same _ _ (h2 rfl), post F H _ (SameT.refl F) k (.str (by decide +kernel))⟩)))
  · split at h
    · rename_i ys ok
      cases h
      obtain ⟨v, rfl, rv⟩ := rps1 r
      have rv2 := rv.mono k.sub.same.t _ _
      obtain ⟨a, vs, rfl, g1, g2, g3⟩ := rp_list_inv rv
      obtain ⟨h1, h2, h3, h4, h5⟩ := showOk_all ok
      exact .inl ⟨a, _, rfl, Rp.dp _ _ h3 rv2, ok, post F H _ (SameT.refl F) k (.str h5)⟩
    · cases h
  · split at h
    · rename_i ys ok
      cases h
      obtain ⟨v, rfl, rv⟩ := rps1 r
      have rv2 := rv.mono k.sub.same.t _ _
      obtain ⟨a, vs, rfl, g1, g2, g3⟩ := rp_tup_inv rv
      obtain ⟨h1, h2, h3, h4, h5⟩ := showOk_all ok
      exact .inl ⟨a, _, rfl, Rp.dp _ _ h3 rv2, ok, post F H _ (SameT.refl F) k (.str h5)⟩
    · cases h
  · cases h
section
variable {X : Cx} {pos p p2 : Pos} {e : Expr} {es : List Expr} {gs : M (List D)} {k : Nat}
theorem e_repr (hr : Room k X.A) (hgd : X.A.guards = some []) (hm : X.mg "repr" = none) (ha : GA X [e] gs) (hg : Gl X "repr" := by rfl) (he : starEach [e] X.env = (false, eval e X.env) :: starEach [] X.env := by rfl) : GE X (.Call (.Name "repr" p) [e] [] pos) (gCall dRepr gs) :=
  e_callB (call_repr2 hr hgd) rd_repr hm (by decide +kernel) ha hg (he := he) (hpl := by rfl)
end
end Fu

set_option maxHeartbeats 4000000
namespace Fu
open PySem PySem.Spec PyProof.Rows L2
variable [TabsC]
/-! ### a < b < c, list + list as a new list -/
def gChain (f f' : D → D → Option D) (ga gb gc : M D) : M D := fun S => (ga S).bind fun p => (gb p.2).bind fun q => match f p.1 q.1 with
  | some (.bool true) => (gc q.2).bind fun r => (f' q.1 r.1).bind fun z => some (z, r.2)
  | some (.bool false) => some (.bool false, q.2)
  | _ => none
theorem rd_chain {K : PySem.W.Frag} {r r' : R2} {f f' : D → D → Option D} {ta tb tc : TE} {ga gb gc : M D} (hf : RdOp K r f) (hf' : RdOp K r' f') (ra : RdE K ta ga) (rb : RdE K tb gb) (rc : RdE K tc gc) : RdE K (tChain r r' ta tb tc) (gChain f f' ga gb gc) := by
  intro A F H S σ d S' Q k h post
  obtain ⟨⟨x, S1⟩, h1, h⟩ := bind_inv h
  obtain ⟨⟨y, S2⟩, h2, h⟩ := bind_inv h
  simp only at h
  refine ra A F H S σ x S1 _ k h1 fun A1 F1 H1 v1 p1 s1 k1 r1 => rb A1 F1 H1 S1 σ y S2 _ k1 h2 fun A2 F2 H2 v2 p2 s2 k2 r2 => ?_
  split at h
  · rename_i e
    obtain ⟨⟨w, S3⟩, h3, h⟩ := bind_inv h
    obtain ⟨z, h4, h⟩ := bind_inv h
    cases h
    refine hf A2 F2 H2 _ σ v1 v2 x y _ _ k2 (r1.mono s2 _ _) r2 e fun F3 H3 v s3 k3 r3 => ?_
    cases rp_bool_inv r3
    refine ⟨true, rfl, ?_⟩
    rw [if_pos rfl]
    refine rc A2 F3 H3 _ σ w _ _ k3 h3 fun A4 F4 H4 v4 p4 s4 k4 r4 => ?_
    exact hf' A4 F4 H4 _ σ v2 v4 y w _ Q k4 (r2.mono (s3.trans s4) _ _) r4 h4 fun F5 H5 v5 s5 k5 r5 => post A4 F5 H5 v5 ((p1.trans p2).trans p4) (s1.trans (s2.trans (s3.trans (s4.trans s5)))) k5 r5
  · rename_i e
    cases h
    refine hf A2 F2 H2 _ σ v1 v2 x y _ _ k2 (r1.mono s2 _ _) r2 e fun F3 H3 v s3 k3 r3 => ?_
    cases rp_bool_inv r3
    refine ⟨false, rfl, ?_⟩
    rw [if_neg (by decide)]
    exact post A2 F3 H3 _ (p1.trans p2) (s1.trans (s2.trans s3)) k3 (.bl false)
  · cases h
section
variable {X : Cx} {pos p p2 : Pos} {a b c e : Expr} {ga gb gc : M D} {op op' : CmpOp}
theorem e_chain {r r' : R2} {f f' : D → D → Option D} (ho : OpR X (compareOp op) r) (ho' : OpR X (compareOp op') r') (hf : RdOp X.K r f) (hf' : RdOp X.K r' f') (ha : GE X a ga) (hb : GE X b gb) (hc : GE X c gc) (hm : lastMarks [op, op'] [b, c] = false := by with_unfolding_all rfl) :
    GE X (.Compare a [op, op'] [b, c] pos) (gChain f f' ga gb gc) :=
  let ⟨_, pa, ra⟩ := ha.ex; let ⟨_, pb, rb⟩ := hb.ex; let ⟨_, pc, rc⟩ := hc.ex; ⟨_, pe_chain ho ho' pa pb pc hm, rd_chain hf hf' ra rb rc⟩
theorem n_cat (ha : GE X a ga) (hb : GE X b gb) : GN X (.BinOp a .Add b pos) (gRep dAdd ga gb) := by
  obtain ⟨_, pa, ra⟩ := ha.ex
  obtain ⟨_, pb, rb⟩ := hb.ex
  refine ⟨_, pe_op op_cat pa pb, fun A F H S σ d S' Q k h post => ?_⟩
  obtain ⟨⟨z, S3⟩, h0, h⟩ := bind_inv h
  obtain ⟨⟨x, S1⟩, h1, h0⟩ := bind_inv h0
  obtain ⟨⟨y, S2⟩, h2, h0⟩ := bind_inv h0
  obtain ⟨z', h3, h0⟩ := bind_inv h0
  cases h0
  refine ra A F H S σ x S1 _ k h1 fun A1 F1 H1 v1 p1 s1 k1 r1 => rb A1 F1 H1 S1 σ y _ _ k1 h2 fun A2 F2 H2 v2 p2 s2 k2 r2 => ?_
  cases z <;> simp only at h <;> cases h
  cases x <;> cases y <;> simp only [dAdd] at h3 <;> try cases h3
  · split at h3 <;> cases h3
  · split at h3
    · rename_i hz
      cases h3
      obtain ⟨l, xs, rfl, g1, g2, _⟩ := rp_list_inv (r1.mono s2 _ _)
      obtain ⟨m, ys, rfl, g3, g4, _⟩ := rp_list_inv r2
      exact ⟨l, m, xs, ys, rfl, rfl, k2.sub.same _ _ g1, k2.sub.same _ _ g3, by rw [g2.length, g4.length]; exact hz, fun p hp => post A2 F2 H2 p _ _ (p1.trans p2) (s1.trans s2) k2 hp rfl (g2.append g4) (by rw [List.length_append]; exact hz)⟩
    · cases h3
  · split at h3 <;> cases h3
end
end Fu

set_option maxHeartbeats 4000000
namespace Fu
open PySem PySem.Spec PyProof.Rows L2
variable [TabsC]
/-! ### xs.count(x), slices as new lists -/
def rCountD (K : PySem.W.Frag) : V → List V → Hp → VK → Prop := fun x xs H Q => ∃ (l : Addr) (vs : List V) (v : V) (ds : List D) (d : D), x = .ref l ∧ xs = [v] ∧ SqL K H l vs ∧ DpAll K H vs ds ∧ Dp K H v d ∧ PyData.canLayAll0 ds = true ∧ d.canLay0 = true ∧ d.depth ≤ 60 ∧ Q (.int ((ds.countP fun y => PyData.eqv y d : Nat) : Int)) H
theorem mt_countD {X : Cx} {k : Nat} (hr : Room k X.A) : MtR X "list.count" (rCountD X.K) := by
  intro pins s σ H x xs v us Q I rx rxs h
  obtain ⟨l, vs, y, ds, d, rfl, rfl, hs, hd, hy, c1, c2, dp, q⟩ := h
  cases rx
  obtain ⟨u, rfl, ru⟩ := rxs.one
  obtain ⟨its, rv, pl, hz⟩ := I.list hs
  obtain ⟨as, r1⟩ := Dp.readsAll I ds _ its hd rv
  obtain ⟨bs, r2⟩ := Dp.reads I d _ _ hy ru
  have hun := hr.un
  refine SeqAt.count_list_data pl.isList (by simpa using r1) r2 (PyData.plainAll_of_canLay0 _ c1) (PyData.plain_of_canLay0 _ c2) (by omega) ?_
  exact ⟨.int _, H, I.tok _, ⟨s.toks, rfl⟩, q⟩
def dCount : D → D → Option D
  | .list ds, d => if PyData.canLayAll0 ds = true ∧ d.canLay0 = true ∧ d.depth ≤ 60 then some (.int ((ds.countP fun y => PyData.eqv y d : Nat) : Int)) else none
  | _, _ => none
section
variable {X : Cx} {pos p p2 apos : Pos} {a b e o : Expr} {ga gb ge go : M D} {k : Nat} {gl gh : M (Option Int)} {lo hi : Option Expr}
theorem e_count (hr : Room k X.A) (ho : GE X o go) (he : GE X e ge) (hbase : attributeBase o "count" X.env (eval o X.env) = eval o X.env := by rfl)
    (hfew : ((backTo pos (starEach [e] X.env)).all (fun x => !x.1) && (backToKw pos (keywordEach [] X.env)).all (fun x => x.1.isSome) && decide (([e] : List Expr).length + ([] : List Keyword).length + (if ([] : List Keyword).isEmpty then 0 else 1) < 30)) = true := by rfl)
    (hline : (apos.endLine == pos.line) = true := by rfl) (hst : starEach [e] X.env = (false, eval e X.env) :: starEach [] X.env := by rfl) : GE X (.Call (.Attribute o "count" apos) [e] [] pos) (gBin dCount go ge) := by
  obtain ⟨_, po, ro⟩ := ho.ex
  obtain ⟨_, pe, re⟩ := he.ex
  refine ⟨_, pe_bm PySem.F.plainAttrs_list PySem.F.slot_list_count PySem.F.type_list_count (mt_countD hr) po (pa_cons pe pa_nil hst) hbase hfew hline hst (by rfl), fun A F H S σ z S' Q k h post => ?_⟩
  obtain ⟨⟨x, S1⟩, h1, h⟩ := bind_inv h
  obtain ⟨⟨y, S2⟩, h2, h⟩ := bind_inv h
  obtain ⟨w, h3, h⟩ := bind_inv h
  cases h
  cases x <;> simp only [dCount] at h3 <;> try cases h3
  split at h3
  · rename_i ok
    cases h3
    refine ro A F H S σ _ _ _ k h1 fun A1 F1 H1 v1 p1 s1 k1 r1 => ?_
    obtain ⟨l, vs, rfl, g1, g2, g3⟩ := rp_list_inv r1
    refine ⟨.inl ⟨rfl, _, SqL.of (k1.sub.same _ _ g1)⟩, re A1 F1 H1 _ σ _ _ _ k1 h2 fun A2 F2 H2 v2 p2 s2 k2 r2 => ?_⟩
    exact ⟨l, vs, v2, _, _, rfl, rfl, SqL.of ((s2.trans k2.sub.same.t).old _ _ g1 trivial), Rps.dp _ _ ok.1 (Rps.mono (s2.trans k2.sub.same.t) _ _ g2), Rp.dp _ _ ok.2.1 (r2.mono k2.sub.same.t _ _), ok.1, ok.2.1, ok.2.2, post A2 F2 H2 _ (p1.trans p2) (s1.trans s2) k2 (.int _)⟩
  · cases h3
end
end Fu

set_option maxHeartbeats 4000000
namespace Fu
open PySem PySem.Spec PyProof.Rows L2
variable [TabsC]
/-! ### an item of an own list as a target among others -/
def sIxO (i : Nat) (gb : M D) : D → Sx → Option Sx := fun d S => (ownOf S i).bind fun o => (gb S).bind fun q => match q.1 with
  | .int n => (cellOf q.2 o.1).bind fun cs => (ixN cs.length n).bind fun m => some (setCell q.2 o.1 (cs.set m d))
  | _ => none
section
variable {X : Cx} {pos p p2 py : Pos} {y : Str} {b : Expr} {gb : M D} {tgt : List Nat}
theorem g_ixO (i : Nat) (hb : GE X b gb) (hN : X.N[i]? = some y := by rfl) (hv : Vis X.env.scope y := by first | exact Or.inl rfl | exact Or.inr (Or.inl rfl) | exact Or.inr (Or.inr rfl)) (hdy : (y == ("__debug__" : Str)) = false := by decide) (hcd : (y == ("__classdict__" : Str)) = false := by decide)
    (ha : ∀ v, assign (.Subscript (.Name y py) b pos) X.env v = (do
      let ov ← holding [v] (eval (.Name y py) X.env)
      let iv ← holding [v, ov] (eval b X.env)
      standAt pos
      holding [v, ov, iv] (setItem ov iv v)
      release [v, ov, iv] []) := by intro _; rfl) : GG X tgt (.Subscript (.Name y py) b pos) (sIxO i gb) := by
  obtain ⟨u, pb, rb⟩ := hb.ex
  refine ⟨_, pg_sub (pe_var hN hv hdy hcd) pb set_list ha, fun A F H S σ v d S' Q k rv h post => ?_⟩
  obtain ⟨⟨j, cs0⟩, e0, h⟩ := bind_inv h
  obtain ⟨⟨x, S2⟩, e2, h⟩ := bind_inv h
  cases x <;> simp only at h <;> try cases h
  rename_i n
  obtain ⟨cs, e3, h⟩ := bind_inv h
  obtain ⟨m, e4, h⟩ := bind_inv h
  cases h
  obtain ⟨a, vs0, _, _, ha', ev, _, hv0, _, _⟩ := own_at k e0
  refine ⟨_, ev, rb A F H S σ _ S2 _ k e2 fun A2 F2 H2 w p2 s2 k2 r2 => ?_⟩
  cases rp_int_inv r2
  obtain ⟨vs, ec, fa, hv', rr, hz⟩ := cell_at k2 e3 (prefix_at p2 ha')
  refine ⟨a, vs, n, m, rfl, rfl, hv', by rw [rr.length]; exact e4, ?_⟩
  exact post A2 F2 _ _ p2 s2 (k2.cellSet ec (prefix_at p2 ha') trivial ⟨_, upd_same, Rps.set _ (rv.mono s2 _ _) rr, by rw [List.length_set]; exact hz⟩) fun _ _ => rfl
end
end Fu

set_option maxHeartbeats 4000000
namespace Fu
open PySem PySem.Spec PyProof.Rows L2
variable [TabsC]
/-! ### a def that calls itself, where it may go no deeper: nothing is promised -/
section
variable {P : Program} {w : World} {K : PySem.W.Frag} {mg : Str → Option Value} {base : Heap} {x : Str} {st : Stmt} {ps : List Str} {k n : Nat}
theorem has_none_pure (D : DefAt K mg x st ps) (hn : ps.length = n) : Has P w K mg base x k ps (spF K n fun _ => none) :=
  let ⟨f, fd, m, F, b⟩ := D; ⟨f, fd, m, F.kp, b, ⟨fun vs H Q E h => (by obtain ⟨ds, z, _, _, h, _⟩ := h; cases h), fun A outer s H args us vs Q E _ _ _ _ h => (by obtain ⟨ds, z, _, _, h, _⟩ := h; cases h)⟩⟩
end
end Fu

set_option maxHeartbeats 4000000
namespace Fu
open PySem PySem.Spec PyProof.Rows L2 RZ
variable [TabsC]
/-! ### slices of a list that is written: the list stays one's own -/
def gSlO (i : Nat) (gl gh : M (Option Int)) : M D := fun S => match S.sl[i]? with
  | some (some (.own j)) => (gl S).bind fun q => (gh q.2).bind fun r => (cellOf r.2 j).bind fun cs => some (.list (cutL cs q.1 r.1), r.2)
  | some (some (.dat (.list xs))) => (gl S).bind fun q => (gh q.2).bind fun r => some (.list (cutL xs q.1 r.1), r.2)
  | _ => none
section
variable {X : Cx} {P : Hp → Prop} {pos py p p2 p3 p4 apos : Pos} {x y : Str} {a b c d e : Expr} {es : List Expr} {ga gb gc gd ge : M D} {gs : M (List D)} {lo hi : Option Expr} {gl gh : M (Option Int)}
theorem n_slO (i : Nat) (hl : GO X lo gl) (hh : GO X hi gh) (hN : X.N[i]? = some y := by rfl) (hv : Vis X.env.scope y := by first | exact Or.inl rfl | exact Or.inr (Or.inl rfl) | exact Or.inr (Or.inr rfl)) (hdy : (y == ("__debug__" : Str)) = false := by decide) (hcd : (y == ("__classdict__" : Str)) = false := by decide) :
    GN X (.Subscript (.Name y py) (.Slice lo hi none p2) pos) (gSlO i gl gh) := by
  obtain ⟨_, pl, rl⟩ := hl.ex
  obtain ⟨_, ph, rh⟩ := hh.ex
  refine ⟨_, pe_slice sl_list (pe_var hN hv hdy hcd) pl ph, fun A F H S σ d S' Q k h post => ?_⟩
  unfold gSlO at h
  split at h
  · rename_i j ej
    obtain ⟨⟨l, S2⟩, h2, h⟩ := bind_inv h
    obtain ⟨⟨u, S3⟩, h3, h⟩ := bind_inv h
    obtain ⟨cs, h4, h⟩ := bind_inv h
    cases h
    obtain ⟨a, ha, ev⟩ := k.oslot i j ej
    refine ⟨_, ev, rl A F H S σ l _ _ k h2 fun A2 F2 H2 p2 s2 k2 => rh A2 F2 H2 _ σ u _ _ k2 h3 fun A3 F3 H3 p3 s3 k3 => ?_⟩
    obtain ⟨vs, ec, fa, hv', r, hz⟩ := cell_at k3 h4 (prefix_at (p2.trans p3) ha)
    exact ⟨a, vs, rfl, SqL.of hv', fun q hq => post A3 F3 H3 q _ _ (p2.trans p3) (s2.trans s3) k3 hq rfl (rps_cut r l u) (Nat.le_trans (cutL_le _ _ _) hz)⟩
  · rename_i xs ej
    obtain ⟨⟨l, S2⟩, h2, h⟩ := bind_inv h
    obtain ⟨⟨u, S3⟩, h3, h⟩ := bind_inv h
    cases h
    obtain ⟨v, ev, rv⟩ := k.slot i _ ej
    obtain ⟨a, vs, rfl, g1, g2, g3⟩ := rp_list_inv rv
    refine ⟨_, ev, rl A F H S σ l _ _ k h2 fun A2 F2 H2 p2 s2 k2 => rh A2 F2 H2 _ σ u _ _ k2 h3 fun A3 F3 H3 p3 s3 k3 => ?_⟩
    have g1' := s3.old _ _ (s2.old _ _ g1 trivial) trivial
    exact ⟨a, vs, rfl, SqL.of (k3.sub.same _ _ g1'), fun q hq => post A3 F3 H3 q _ _ (p2.trans p3) (s2.trans s3) k3 hq rfl (rps_cut (Rps.mono (s2.trans s3) _ _ g2) l u) (Nat.le_trans (cutL_le _ _ _) g3)⟩
  · cases h

/-! ### xs += e, a list that is written -/
/-! ### the script: walked, as a list -/
/-! ### enumerate(xs) -/
/-! ### a < b <= c < d -/
end
end Fu

set_option maxHeartbeats 4000000
namespace Fu
open PySem PySem.Spec PyProof.Rows L2 RZ
variable [TabsC]
section
variable {X : Cx} {P : Hp → Prop} {pos py p p2 p3 p4 apos : Pos} {x y : Str} {a b c d e e2 e3 o : Expr} {es : List Expr} {ga gb gc gd ge go g2 : M D} {gs : M (List D)} {k : Nat}
/-! ### xs[::c], c is 1 or -1 -/
/-! ### xs.index(x) -/
/-! ### max(a, b, c) -/
end
end Fu

set_option maxHeartbeats 4000000
namespace Fu
open PySem PySem.Spec PyProof.Rows L2 RZ
variable [TabsC]
/-! ### calls that look at lists of one's own: they stay one's own, the answer holds no list -/
mutual
def hardD : D → Bool
  | .none | .bool _ | .int _ | .str _ => true
  | .list _ | .dict _ => false
  | .tuple ds => hardDs ds
def hardDs : List D → Bool
  | [] => true
  | d :: ds => hardD d && hardDs ds
end
mutual
theorem Rp.hard {K : PySem.W.Frag} {F H : Hp} (ht : ∀ b xs, H b = some (.tup xs) → F b = some (.tup xs)) : ∀ (d : D) (v : V), hardD d = true → Rp K H v d → Rp K F v d
  | .none, _, _, h => by cases h; exact .non
  | .bool b, _, _, h => by cases h; exact .bl b
  | .int i, _, _, h => by cases h; exact .int i
  | .str x, _, _, h => by
    cases h with
    | str hz => exact .str hz
  | .list ds, _, c, _ => by simp [hardD] at c
  | .dict kvs, _, c, _ => by simp [hardD] at c
  | .tuple ds, _, c, h => by
    cases h with
    | tup hs ha hz => exact .tup (ht _ _ hs) (Rps.hard ht ds _ (by simpa [hardD] using c) ha) hz
theorem Rps.hard {K : PySem.W.Frag} {F H : Hp} (ht : ∀ b xs, H b = some (.tup xs) → F b = some (.tup xs)) : ∀ (ds : List D) (vs : List V), hardDs ds = true → Rps K H vs ds → Rps K F vs ds
  | [], _, _, h => by cases h; exact .nil
  | d :: ds, _, c, h => by
    have c' : hardD d = true ∧ hardDs ds = true := by simpa [hardDs] using c
    cases h with
    | cons h1 h2 => exact .cons (Rp.hard ht d _ c'.1 h1) (Rps.hard ht ds _ c'.2 h2)
end
section
variable {X : Cx} {pos py p p2 : Pos} {x y : Str} {e : Expr} {es : List Expr} {ge : M D} {gs : M (List D)} {k n : Nat} {ps : List Str}
/-- what was not there before is known for good -/
def newH (F H H' : Hp) : Hp := fun b => match H b with
  | none => H' b
  | some (.tbl _) => H' b
  | some _ => F b
theorem newH_new {F H H' : Hp} {b : Addr} (h : H b = none) : newH F H H' b = H' b := by unfold newH; rw [h]
theorem newH_old {F H H' : Hp} {b : Addr} {o : HO} (h : H b = some o) (n : NT o) : newH F H H' b = F b := by
  unfold newH
  rw [h]
  cases o <;> first | rfl | exact n.elim
theorem newH_tbl {F H H' : Hp} {b : Addr} {o : HO} (h : H b = some o) (n : ¬ NT o) : newH F H H' b = H' b := by
  unfold newH
  rw [h]
  cases o <;> first | rfl | exact (n trivial).elim
theorem newH_get {K : PySem.W.Frag} {A : List Addr} {F H H' : Hp} {S : Sx} {σ : L2.St} (k : Ok K A F H S σ) (s : SameT H H') {b : Addr} (o : HO) (q : H' b = some o) (nl : ¬ Loose o) : Fu.newH F H H' b = some o := by
  cases e : H b with
  | none => rw [newH_new e]; exact q
  | some u =>
    by_cases n : NT u
    · have := s.old b u e n
      rw [q] at this; cases this
      rw [newH_old e n]
      exact k.sub.keep e nl
    · rw [newH_tbl e n]; exact q
theorem Ok.newH {K : PySem.W.Frag} {A : List Addr} {F H H' : Hp} {S : Sx} {σ : L2.St} (k : Ok K A F H S σ) (s : SameT H H') : SameT F (newH F H H') ∧ Ok K A (newH F H H') H' S σ := by
  have sm : SameT F (Fu.newH F H H') := ⟨fun b o q n => by
    rw [newH_old (k.sub.same b o q) n]; exact q, fun t => fun p hp => by
    obtain ⟨ps, e, t1, t2⟩ := s.tab (k.tab.ext k.sub.same) p hp
    exact ⟨ps, newH_get k s _ e (fun z => z), t1, fun pos cv h => let ⟨c, e1, e2⟩ := t2 pos cv h; ⟨c, e1, newH_get k s _ e2 (fun z => z)⟩⟩, fun b o q => by
    by_cases n : NT o
    · rw [newH_old (k.sub.same b o q) n]; exact ⟨o, q⟩
    · rw [newH_tbl (k.sub.same b o q) n]; exact s.stay _ _ (k.sub.same b o q)⟩
  refine ⟨sm, k.grow ⟨fun b o q => ?_, fun b o q n => ?_⟩ sm (fun a ha o q => ?_) fun a ha q => ?_⟩
  · cases e : H b with
    | none => rw [newH_new e] at q; exact q
    | some u =>
      by_cases n : NT u
      · rw [newH_old e n] at q
        have := k.sub.same b o q
        rw [e] at this; cases this
        exact s.old b _ e n
      · rw [newH_tbl e n] at q; exact q
  · cases e : H b with
    | none => rw [newH_new e, q] at n; cases n
    | some u =>
      by_cases nn : NT u
      · rw [newH_old e nn] at n
        have := s.old b u e nn
        rw [q] at this; cases this
        exact k.sub.loose b o e n
      · rw [newH_tbl e nn, q] at n; cases n
  · obtain ⟨o', ho, l⟩ := k.trk a ha
    rw [q] at ho; cases ho
    exact s.old a o q l.nt
  · obtain ⟨o, ho, l⟩ := k.trk a ha
    rw [newH_old ho l.nt]; exact q
end
end Fu

set_option maxHeartbeats 4000000
namespace Fu
open PySem PySem.Spec PyProof.Rows L2 RZ
variable [TabsC]
/-! ### looks: an expression that writes nothing sees one's own lists as data; they stay one's own -/
def mapO {α β : Type} (f : α → Option β) : List α → Option (List β)
  | [] => some []
  | x :: xs => (f x).bind fun y => (mapO f xs).map fun ys => y :: ys
def snapR (os : List (Option Cell)) : Nat → R → Option D
  | 0, .dat d => some d
  | 0, _ => none
  | _ + 1, .dat d => some d
  | _ + 1, .scr _ => none
  | _ + 1, .exc _ => none
  | n + 1, .tup rs => (mapO (snapR os n) rs).map .tuple
  | n + 1, .own j => match os[j]? with
    | some (some (.lst ds)) => some (.list ds)
    | some (some (.lR rs)) => (mapO (snapR os n) rs).map .list
    | _ => none
def sealS (os : List (Option Cell)) : Option R → Option R
  | some (.scr ns) => some (.scr ns)
  | some (.exc c) => some (.exc c)
  | some r => (snapR os 8 r).map .dat
  | none => none
def sealAll (S : Sx) : Sx := ⟨S.sl.map (sealS S.os), S.os.map fun _ => none⟩
section
variable {K : PySem.W.Frag} {A : List Addr} {F H H' : Hp} {S : Sx} {σ : L2.St}
theorem mapO_len {α β : Type} {f : α → Option β} : ∀ {xs : List α} {ys : List β}, mapO f xs = some ys → ys.length = xs.length
  | [], _, h => by cases h; rfl
  | x :: xs, _, h => by
    obtain ⟨y, _, h⟩ := bind_inv h
    obtain ⟨ys, h1, rfl⟩ := Option.map_eq_some_iff.mp h
    rw [List.length_cons, List.length_cons, mapO_len h1]
theorem snaps_ok {n : Nat} {os : List (Option Cell)} {P : V → R → Prop} (h : ∀ r v d, snapR os n r = some d → P v r → Rp K H v d) : ∀ (rs : List R) (vs : List V) (ds : List D), mapO (snapR os n) rs = some ds → (∀ (i : Nat) r, rs[i]? = some r → ∃ v, vs[i]? = some v ∧ P v r) → vs.length = rs.length → Rps K H vs ds
  | [], vs, _, e, _, l => by
    cases e
    have : vs = [] := List.length_eq_zero_iff.mp l
    rw [this]; exact .nil
  | r :: rs, vs, _, e, g, l => by
    obtain ⟨d, e1, e⟩ := bind_inv e
    obtain ⟨ds, e2, rfl⟩ := Option.map_eq_some_iff.mp e
    cases vs with
    | nil => cases l
    | cons v vs =>
      obtain ⟨v', e3, p⟩ := g 0 r rfl
      cases e3
      exact .cons (h r v d e1 p) (snaps_ok h rs vs ds e2 (fun i r hr => by simpa using g (i + 1) r (by simpa using hr)) (by simpa using l))
theorem snap_ok (k : Ok K A F H S σ) : ∀ (n : Nat) (r : R) (v : V) (d : D), snapR S.os n r = some d → Rr K A F v r → Rp K H v d := by
  intro n
  induction n with
  | zero =>
    intro r v d e q
    cases q with
    | dat q => cases e; exact Rp.mono k.sub.same.t _ _ q
    | own _ => cases e
    | scr _ _ => cases e
    | tup _ _ _ => cases e
    | exc _ _ => cases e
  | succ n ih =>
    intro r v d e q
    cases q with
    | dat q => cases e; exact Rp.mono k.sub.same.t _ _ q
    | scr _ _ => cases e
    | exc _ _ => cases e
    | tup hs hr hz =>
      obtain ⟨ds, e1, rfl⟩ := Option.map_eq_some_iff.mp e
      exact .tup (k.sub.same.t.old _ _ hs trivial) (snaps_ok ih _ _ _ e1 (fun i r h => hr.get h) hr.length) (by rw [mapO_len e1]; exact hz)
    | @own j a ha =>
      unfold snapR at e
      split at e
      · rename_i ds ej
        cases e
        obtain ⟨a', e1, fa, vs, hv, r, hz⟩ := k.cell j _ ej
        rw [ha] at e1; cases e1
        exact .lst hv (Rps.mono k.sub.same.t _ _ r) hz
      · rename_i rs ej
        obtain ⟨ds, e2, rfl⟩ := Option.map_eq_some_iff.mp e
        obtain ⟨a', e1, fa, vs, hv, r, hz⟩ := k.cell j _ ej
        rw [ha] at e1; cases e1
        exact .lst hv (snaps_ok ih _ _ _ e2 (fun i r' h => r.get h) r.length) (by rw [mapO_len e2]; exact hz)
      · cases e
theorem Ok.view (k : Ok K A F H S σ) : Ok K A H H (sealAll S) σ where
  sub := Sub.refl H
  len := by rw [← k.len]; simp [sealAll]
  alen := by rw [← k.alen]; simp [sealAll]
  nd := k.nd
  rslot := fun i r h => by
    unfold sealAll at h
    simp only [List.getElem?_map, Option.map_eq_some_iff] at h
    obtain ⟨x, hx, h⟩ := h
    unfold sealS at h
    split at h
    · rename_i ns
      cases h
      obtain ⟨v, e, q⟩ := k.rslot i _ hx
      exact ⟨v, e, q.mono (List.prefix_refl _) k.sub.same.t _ _⟩
    · rename_i c'
      cases h
      obtain ⟨v, e, q⟩ := k.rslot i _ hx
      exact ⟨v, e, q.mono (List.prefix_refl _) k.sub.same.t _ _⟩
    · rename_i r' nr nr2
      obtain ⟨d, e1, rfl⟩ := Option.map_eq_some_iff.mp h
      obtain ⟨v, e, q⟩ := k.rslot i _ hx
      exact ⟨v, e, .dat (snap_ok k _ _ _ _ e1 q)⟩
    · cases h
  cell := fun j c h => by
    unfold sealAll at h
    simp only [List.getElem?_map, Option.map_eq_some_iff] at h
    obtain ⟨_, _, h⟩ := h
    cases h
  trk := k.trk
  tab := k.tab.ext k.sub.same
end
section
variable {X : Cx} {e : Expr} {g : M D} {gt : M Bool}
def gViewN (g : M D) : M D := fun S => (g (sealAll S)).bind fun q => match q.1 with
  | .list ds => if hardDs ds = true then some (.list ds, S) else none
  | _ => none
end
end Fu

set_option maxHeartbeats 4000000
namespace L2
open PySem PySem.Spec PyProof.Rows
open Fu (XO)
/-! ### an exception that is looked at behind its suite: it is tracked from the suite's end on -/
section
variable {X : Cx} {pins : List (Addr × Obj)} {σ : St} {H : Hp} {s : Shared}
/-- an object that came to stand since the frame began, and that nobody tracks, is tracked -/
theorem adopt {a : Addr} {cls : Value} {o : Obj} {fs : Array Value} (I : Inv X pins σ H s) (na : H a = none) (ha : s.heap.get? a = some o) (hz : Zc cls none o) (hf : o.data = .fields fs) (h0 : X.s_0.heap.get? a = none) (nL : a ≠ X.env.locals)
    (hp : ∀ p ∈ X.pn ++ pins, p.1 ≠ a) : Inv X pins σ (upd H a (XO cls a)) s := by
  have ne : ∀ b u, H b = some u → b ≠ a := fun b u e z => by rw [z, na] at e; cases e
  have ne0 : ∀ b u, X.s_0.heap.get? b = some u → b ≠ a := fun b u e z => by rw [z, h0] at e; cases e
  have nc : ∀ x c, X.env.cells.lookup x = some c → c ≠ a := fun x c e z => by
    obtain ⟨v, o', ho', hd'⟩ := I.cell x c e
    rw [z, ha] at ho'; cases ho'
    rw [hf] at hd'; cases hd'
  refine ⟨I.ok, I.os, I.bare, ⟨I.base.keep, I.base.slot, fun b u e n hx => ?_, I.base.there, fun b xs e => ?_, fun b u xs e => ?_, fun b ps e => ?_⟩, I.loc, I.cell, ?_, fun x c e => ?_, fun p hm => ?_, fun b u e => ?_, I.len⟩
  · rw [upd_ne (ne0 b u e)]; exact I.base.free b u e n hx
  · have := I.base.tups b xs e
    rw [upd_ne (ne b _ this)]; exact this
  · have := I.base.frzs b u xs e
    rw [upd_ne (ne b _ this)]; exact this
  · obtain ⟨more, q⟩ := I.base.tbls b ps e
    exact ⟨more, by rw [upd_ne (ne b _ q)]; exact q⟩
  · rw [upd_ne (Ne.symm nL)]; exact I.free
  · rw [upd_ne (nc x c e)]; exact I.freeC x c e
  · obtain ⟨k1, k2, k3, k4, k5⟩ := I.pin p hm
    exact ⟨k1, by rw [upd_ne (hp p hm)]; exact k2, k3, k4, k5⟩
  · by_cases hb : b = a
    · subst hb
      rw [upd_same] at e
      cases e
      exact ⟨⟨o, fs, ha, hz, hf⟩, ⟨o, ha⟩, fun _ _ ⟨o', f', q, r⟩ k => ⟨o', f', k o' q, r⟩⟩
    · rw [upd_ne hb] at e
      exact (I.hok b u e).stay (fun _ _ _ q => q) (fun c q => by rw [upd_ne (ne c _ q)]; exact q) (fun c xs q => by rw [upd_ne (ne c _ q)]; exact q)
end
section
variable {X : Cx} {x n : Str} {c : Value} {i : Nat} {body suite : List Stmt} {b0 : Stmt} {np p1 p2 : Pos} {tb : WX → TS} {ts : Addr → Value → TS} {Wout : WX}
end
end L2

set_option maxHeartbeats 4000000
namespace L2
open PySem PySem.Spec PyProof.Rows
open Fu (Sub lpins forget remember lost_of mixH loose_there mix_held mix_free)
section
variable {X : Cx} {k : Nat} {f : Addr} {fd : FuncData} {ps : List Str} {sp : Sp} {W : WX} {x : Str} {p pos : Pos} {e : Expr} {es : List Expr} {t : TA}
end
end L2

set_option maxHeartbeats 4000000
namespace Fu
open PySem PySem.Spec PyProof.Rows L2 RZ
variable [TabsC]
/-! ### what may raise: mirrored with its refusals -/
def ClsD (K : PySem.W.Frag) (c : Str) (D : Addr) : Prop := PySem.W.nsIn K mainGlobals c = some (some (.ref D))
abbrev Zr (α : Type) := Except (Str × Sx) α
def ZErr (K : PySem.W.Frag) (W : WX) (A : List Addr) (F : Hp) (e : Str × Sx) : Prop := ∀ A' F' H' σ' D, A <+: A' → SameT F F' → Ok K A' F' H' e.2 σ' → ClsD K e.1 D → W (.ref D) none σ' H'
def RdEZ (K : PySem.W.Frag) (W : WX) (t : TE) (g : Sx → Option (Zr (D × Sx))) : Prop := ∀ A F H S σ r Q, Ok K A F H S σ → g S = some r →
  (∀ d S', r = .ok (d, S') → ∀ A' F' H' v, A <+: A' → SameT F F' → Ok K A' F' H' S' σ → Rp K F' v d → Q v H') → (∀ e, r = .error e → ZErr K W A F e) → t σ H Q
structure GEZ (X : Cx) (W : WX) (e : Expr) (g : Sx → Option (Zr (D × Sx))) : Prop where
  ex : ∃ t, PE X e t ∧ RdEZ X.K W t g
theorem ZErr.mono {K : PySem.W.Frag} {W : WX} {A A1 : List Addr} {F F1 : Hp} {e : Str × Sx} (p : A <+: A1) (s : SameT F F1) (h : ZErr K W A F e) : ZErr K W A1 F1 e := fun A' F' H' σ' D p' s' k c => h A' F' H' σ' D (p.trans p') (s.trans s') k c
section
variable {X : Cx} {W : WX} {pos p p2 : Pos} {x : Str} {e : Expr} {es : List Expr} {gs : M (List D)} {k n : Nat} {ps : List Str}
end
/-! ### statements that may raise -/
def RdSZ (K : PySem.W.Frag) (P : Hp → Prop) (W : WX) (t : TS) (g : Sx → Option (Zr Out)) : Prop := ∀ B A0 A F H S σ r (E : Ends), P B → SameT B F → A0 <+: A → Ok K A F H S σ → g S = some r → (∀ o, r = .ok o → OutP K B A0 o E) → (∀ e, r = .error e → ZErr K W A0 B e) → t E σ H
structure GZ (X : Cx) (P : Hp → Prop) (W : WX) (st : Stmt) (g : Sx → Option (Zr Out)) : Prop where
  ex : ∃ t, PS X st t ∧ RdSZ X.K P W t g
def zBe (g : Sx → Option (Zr (D × Sx))) (f : D → Sx → Option Out) : Sx → Option (Zr Out) := fun S => (g S).bind fun r => match r with
  | .ok q => (f q.1 q.2).map .ok
  | .error e => some (.error e)
def zSet (i : Nat) (g : Sx → Option (Zr (D × Sx))) := zBe g fun d S => some (.nx ⟨S.sl.set i (some (.dat d)), S.os⟩)
section
variable {X : Cx} {P : Hp → Prop} {W : WX} {st : Stmt} {sts : List Stmt} {g h : Sx → Option (Zr Out)} {e : Expr} {ge : Sx → Option (Zr (D × Sx))} {pos : Pos}
theorem z_set {x : Str} {pos' : Pos} (i : Nat) (hN : X.N.Nodup) (he : GEZ X W e ge) (hx : Loc X.env.scope x := by first | exact Or.inl rfl | exact Or.inr rfl) (hi : X.N[i]? = some x := by rfl) (hs : swapsWith e (some (.Name x pos')) pos.line X.env = pure false := by rfl)
    (hf : X.fn x = true ∨ X.env.scope.names.lookup x = some .local := by first | exact .inl rfl | exact .inr rfl | assumption) : GZ X P W (.Assign [.Name x pos'] e pos) (zSet i ge) := by
  obtain ⟨t, p1, r1⟩ := he.ex
  refine ⟨_, ps_set hN hi hx p1 hs hf, fun B A0 A F H S σ r E hP s p k e post err => ?_⟩
  obtain ⟨r0, e1, e⟩ := bind_inv e
  refine r1 A F H S σ r0 _ k e1 (fun d S1 e0 A1 F1 H1 v p1 s1 k1 rv => ?_) (fun er e0 => ?_)
  · subst e0; cases e
    exact post _ rfl A1 F1 H1 _ (s.trans s1) (p.trans p1) (k1.setDat rv)
  · subst e0; cases e
    exact fun A' F' H' σ' D p' s' k' c => err _ rfl A' F' H' σ' D (p.trans p') (s.trans s') k' c
end
/-! ### a def that may raise -/
section
variable {P : Program} {w : World} {K : PySem.W.Frag} {mg : Str → Option Value} {base : Heap} {x qual : Str} {st : Stmt} {f : Addr} {fd : FuncData} {N ps : List Str} {k n : Nat} {g : Sx → Option (Zr Out)}
end
end Fu

set_option maxHeartbeats 4000000
namespace L2
open PySem PySem.Spec PyProof.Rows
open Fu (XO)
end L2
namespace Fu
open PySem PySem.Spec PyProof.Rows L2 RZ
variable [TabsC]
/-! ### an exception in a slot -/
/-- what an exception of the class c is, seen by cv -/
def ExcIs (K : PySem.W.Frag) (c : Str) (cv : Value) (b : Bool) : Prop := ∀ D, ClsD K c D → ExcC K D ∧ PySem.W.kitOne K (.ref D) cv = some b
section
variable {X : Cx} {pos p p2 p3 : Pos} {y x : Str} {k : Nat}
end
/-! ### a def of one exception -/
section
variable {P : Program} {w : World} {K : PySem.W.Frag} {mg : Str → Option Value} {base : Heap} {x qual : Str} {st : Stmt} {f : Addr} {fd : FuncData} {N ps : List Str} {k n : Nat} {g : Sx → Option Out}
end
section
variable {X : Cx} {pos p py : Pos} {x y : Str} {k : Nat} {ps : List Str}
end
/-! ### try: .. except C as n: y = n -/
section
variable {X : Cx} {P : Hp → Prop} {body : List Stmt} {g : Sx → Option (Zr Out)} {pos p p1 p2 p3 p4 p5 : Pos} {x n y : Str} {W : WX}
theorem Ok.clr {K : PySem.W.Frag} {A : List Addr} {F H : Hp} {S : Sx} {σ : L2.St} (k : Ok K A F H S σ) (i : Nat) : Ok K A F H ⟨S.sl.set i none, S.os⟩ (σ.set i none) := by
  refine ⟨k.sub, by rw [List.length_set, List.length_set]; exact k.len, k.alen, k.nd, fun j r e => ?_, k.cell, k.trk, k.tab⟩
  by_cases h : i = j
  · subst h
    rw [List.getElem?_set] at e
    split at e
    · split at e <;> cases e
    · exact absurd rfl ‹¬ _›
  · rw [List.getElem?_set_ne h] at e
    rw [List.getElem?_set_ne h]
    exact k.rslot j r e
end
end Fu

set_option maxHeartbeats 4000000
namespace Fu
open PySem PySem.Spec PyProof.Rows L2 RZ
variable [TabsC]
/-! ### the facts of the classes -/
def LookT (K : PySem.W.Frag) (mg : Str → Option Value) (x : Str) (cs : List Str) (b : Str → Bool) : Prop := ∃ D, mg x = some (.ref D) ∧ ∀ c ∈ cs, ExcIs K c (.ref D) (b c)
theorem cls_same {K : PySem.W.Frag} {c : Str} {f D : Addr} (a : PySem.W.nsIn K mainGlobals c = some (some (.ref f))) (d : ClsD K c D) : D = f := by
  unfold ClsD at d
  rw [a] at d
  cases d; rfl
theorem ExcIs.mk {K : PySem.W.Frag} {c : Str} {f : Addr} {cv : Value} {b b' : Bool} (a : PySem.W.nsIn K mainGlobals c = some (some (.ref f))) (e : ExcC K f) (k : PySem.W.kitOne K (.ref f) cv = some b') (h : b' = b) : ExcIs K c cv b := fun D d => by
  cases cls_same a d
  exact ⟨e, h ▸ k⟩
theorem sub_self {K : PySem.W.Frag} {C : Addr} {bm : List Value} {n : String} (x : PySem.W.excIn K C bm n = true) : PySem.W.subIn K (.ref C) (.ref C) = some true := by
  unfold PySem.W.excIn at x
  split at x
  · rename_i dict cd sl e
    split at x
    · rename_i C' bm' h1 h2 h3 n' h4 em _
      simp only [Bool.and_eq_true, beq_iff_eq] at x
      obtain ⟨⟨⟨⟨⟨rfl, _⟩, _⟩, _⟩, _⟩, _⟩ := x
      simp only [PySem.W.subIn, PySem.W.mroIn, PySem.W.clsIn, e, Option.bind_some, em]
      simp
    · cases x
  · cases x
section
variable {X : Cx} {pos p p2 p3 p1 p4 p5 : Pos} {y x n : Str} {P : Hp → Prop} {body : List Stmt} {g : Sx → Option (Zr Out)}
end
end Fu

set_option maxHeartbeats 4000000
namespace L2
open PySem PySem.Spec PyProof.Rows
open Fu (XO)
end L2
namespace Fu
open PySem PySem.Spec PyProof.Rows L2 RZ
variable [TabsC]
/-! ### looks by many classes at once -/
structure AnyT (X : Cx) (es : List Expr) (cs : List Str) (b : Str → Bool) : Prop where
  ex : ∃ (Cs : List Addr) (t : TA), PA X es t ∧ (∀ σ H Q, Q (Cs.map V.ref) H → t σ H Q) ∧ (∀ c ∈ cs, ∀ D, ClsD X.K c D → PySem.W.kitAny X.K (.ref D) (Cs.map Value.ref) = some (b c)) ∧ Cs.length = es.length
section
variable {X : Cx} {pos p p2 p3 p4 : Pos} {y x : Str} {es : List Expr} {cs : List Str} {b b2 : Str → Bool}
theorem any_cons (T : LookT X.K X.mg x cs b) (h : AnyT X es cs b2) (hgx : Gl X x := by rfl) (hdx : (x == ("__debug__" : Str)) = false := by decide) (he : starEach (.Name x p :: es) X.env = (false, eval (.Name x p) X.env) :: starEach es X.env := by rfl) :
    AnyT X (.Name x p :: es) cs (fun c => b c || b2 c) := by
  obtain ⟨C, hC, hk⟩ := T
  obtain ⟨Cs, t, pa, ht, ha, hn⟩ := h.ex
  refine ⟨C :: Cs, _, pa_cons (pe_glob (v := .ref C) hgx hC rfl hdx) pa he, fun σ H Q q => ht σ H _ q, fun c hc D cd => ?_, by rw [List.length_cons, List.length_cons, hn]⟩
  have k1 := (hk c hc D cd).2
  have k2 := ha c hc D cd
  refine kitAny_cons k1 (fun e1 => ?_) (fun e1 => by rw [e1]; rfl)
  rw [e1]; exact k2
end
/-! ### two new lists at once -/
section
variable {X : Cx} {P : Hp → Prop} {pos py : Pos} {x y : Str} {a b : Expr} {ga gb ge : M D}
end
/-! ### more of what may raise -/
section
variable {X : Cx} {W : WX} {pos p : Pos} {x : Str} {e : Expr} {es : List Expr} {id : String} {k : Nat}
end
end Fu

set_option maxHeartbeats 4000000
namespace L2
open PySem PySem.Spec PyProof.Rows
open Fu (dictO)
/-! ### {t: v}, t a tuple of ints and texts: a dict, what it holds is not told -/
end L2
namespace Fu
open PySem PySem.Spec PyProof.Rows L2 RZ
variable [TabsC]
section
variable {X : Cx} {pos : Pos} {e v : Expr} {ge gv : M D} {k : Nat}
end
end Fu

set_option maxHeartbeats 4000000
namespace Fu
open PySem PySem.Spec PyProof.Rows L2
variable [TabsC]
section
variable {X : Cx} {pos apos p p2 sp c0 c1 : Pos} {a e o : Expr} {ga ge go : M D} {k : Nat} {y z : Str} {i : Int} {j j0 j1 : Nat}
/-! ### line[2].replace("b", "a"): the index gives out a token -/
/-! ### letters.index(sign) of a text -/
end
end Fu

set_option maxHeartbeats 4000000
namespace PySem
open Sem (wp)
set_option maxHeartbeats 4000000 in
section
variable {prog : Program} {w : World} {A : Around} {E : Value → Shared → Prop} {s : Shared}
end
end PySem
namespace L2
open PySem PySem.Spec PyProof.Rows
end L2
namespace Fu
open PySem PySem.Spec PyProof.Rows L2
variable [TabsC]
section
variable {X : Cx} {p pos : Pos} {e : Expr} {gs : M (List D)}
end
end Fu

set_option maxHeartbeats 4000000
namespace Fu
open PySem PySem.Spec PyProof.Rows L2
variable [TabsC]
/-! ### set & set -/
section
variable {P : Program} {w : World} {A : Around} {E : Value → Shared → Prop} {s : Shared}
end
end Fu

set_option maxHeartbeats 4000000
namespace Fu
open PySem PySem.Spec PyProof.Rows L2
variable [TabsC]
section
variable {P : Program} {w : World} {A : Around} {E : Value → Shared → Prop} {s : Shared}
end
/-! ### tracked sets of whole numbers -/
section
variable {X : Cx} {pos p p1 p2 p3 p4 p5 p6 p7 : Pos} {e e2 : Expr} {ge ge2 : M D}
section
variable {k : Nat} (hr : Room k X.A) (m1 : X.mg "set" = none) (ha : GE X e ge) (hb : GE X e2 ge2)
include hr m1 ha hb in
include hr m1 ha hb in
end
end
end Fu

set_option maxHeartbeats 4000000
namespace Fu
open PySem PySem.Spec PyProof.Rows L2
variable [TabsC]
section
variable {X : Cx} {pos apos p p2 : Pos} {a e o : Expr} {es : List Expr} {ga ge go : M D} {gs : M (List D)}
/-! ### str(n), int(text) -/
/-! ### split, partition, join -/
end

/-! ### head, *rest = a list -/
section
variable {prog : Program} {w : World} {A : Around} {E : Value → Shared → Prop} {s : Shared}
end
section
variable {X : Cx} {pos p : Pos} {e : Expr} {es : List Expr} {tg ts : List Nat} {g : D → Sx → Option Sx} {gs : List D → Sx → Option Sx}
def sStar1 (gs : List D → Sx → Option Sx) : D → Sx → Option Sx := fun d S => match d with
  | .list (d :: ds) => gs [d, .list ds] S
  | _ => none
end
end Fu

set_option maxHeartbeats 4000000
/-! sorted(it, key=f) where the keys may hold lists, over any source -/
namespace SrtL
open PySem PySem.W PySem.Calls PyProof.Rows
variable {pg : Program} {wd : World} {A : Around} {E : Value → Shared → Prop} {s : Shared} {l kL : Addr} {rv : Bool} {us : List Value} {z1 : Nat} {Pf : PySem.Fin → Shared → Prop} {kds : List PyData}
/-- a turn: f(x) tells the key k; the lists that it reads stood in h1 -/
def Tells (J : Shared → Prop) (h1 : Heap) (k : PyData) (s1 : Shared) (u : Value) (s2 : Shared) : Prop :=
  J s2 ∧ (∀ b o, s1.heap.get? b = some o → s2.heap.get? b = some o) ∧ ∃ as, Reads s2.heap u k as ∧ ∀ x ∈ as, h1.get? x ≠ none
/-- the keys so far -/
def Here (h1 h : Heap) (u : Value) (d : PyData) : Prop := ∃ as, Reads h u d as ∧ alike d d = true ∧ ∀ x ∈ as, h1.get? x ≠ none
theorem Here.keeps {h1 h h' : Heap} {u : Value} {d : PyData} (k : ∀ b o, h.get? b = some o → h'.get? b = some o) (q : Here h1 h u d) : Here h1 h' u d := by
  obtain ⟨as, r, e, m⟩ := q
  exact ⟨as, PyProof.Rows.Reads.keeps k r, e, m⟩
theorem rest {f : Value} {h1 : Heap} (J : Shared → Prop) (hJ : ∀ t g n, J t → J { t with heap := g, toks := n }) (hj : J s)
    (kp : KeepsBut l h1 s.heap) (n1 : h1.get? kL = none) (n2 : s.heap.get? kL = some (seqObj "list" #[] 0)) (n3 : s.heap.get? l = some (seqObj "list" #[] z1)) (ne : kL ≠ l)
    (len : kds.length = us.length) (few : us.length ≤ sizeLine) (al : AllAlike kds) (so : Sortable kds) (un : ∀ d, d ∈ kds → A.units + d.depth < cLine)
    (turn : ∀ (i : Nat) (v : Value) (k : PyData), us[i]? = some v → kds[i]? = some k → ∀ t : Shared, J t → KeepsBut l h1 t.heap → wpAny (model pg wd) A (call f [v]) (Tells J h1 k t) (fun _ _ => False) t)
    (fin : ∀ (t : Shared) out c, J t → KeepsBut l h1 t.heap → t.heap.get? l = some (seqObj "list" (List.toArray out) c) → KeyedOut rv kds us out → Pf (.done (.ret .none)) t) :
    wpAny (model pg wd) A (ksk_rest l f rv us.toArray z1 (.ref kL)) Pf E s := by
  unfold ksk_rest
  refine wpAny_bind (wpAny_rule ?_)
  first | rw [List.forIn_toArray] | (rw [← Array.forIn_toList]; simp only [List.toList_toArray])
  let St : Nat → Shared → Prop := fun i t => ∃ (kA : Array Value) (n : Nat), J t ∧ KeepsBut l h1 t.heap ∧ t.heap.get? kL = some (seqObj "list" kA n) ∧ t.heap.get? l = some (seqObj "list" #[] z1) ∧ EachIs (Here h1 t.heap) kA.toList (kds.take i)
  have st0 : St 0 s := ⟨#[], 0, hj, kp, n2, n3, by rw [List.take_zero]; exact EachIs.nil⟩
  refine wpAny_bind (ksk_fold St us 0 s st0 ?go ?done)
  case go =>
    rintro j x t hx ⟨kA, n, hjt, kpt, m2, m3, hk⟩
    simp only [Nat.zero_add] at hk ⊢
    have hj' : j < us.length := (List.getElem?_eq_some_iff.mp hx).1
    obtain ⟨d, hd⟩ : ∃ d, kds[j]? = some d := ⟨_, List.getElem?_eq_getElem (by omega)⟩
    have dd : alike d d = true := al d (List.mem_of_getElem? hd) d (List.mem_of_getElem? hd)
    have small : kA.size ≤ us.length := by
      have e1 := hk.length
      simp only [Array.length_toList, List.length_take] at e1
      omega
    refine wpAny_bind (wpAny_attempt (wpAny_mono (turn j x d hx hd t hjt kpt) (fun v t2 he => ?_) fun _ _ no => no.elim))
    obtain ⟨j2, kp2, as, rd, old⟩ := he
    have p2 : t2.heap.get? kL = some (seqObj "list" kA n) := kp2 _ _ m2
    have p3 : t2.heap.get? l = some (seqObj "list" #[] z1) := kp2 _ _ m3
    have sb := Heap.SameBut.update t2.heap kL (Obj.mapSeq (·.push v))
    obtain ⟨n', hn'⟩ : ∃ n', (t2.heap.update kL (Obj.mapSeq (·.push v))).get? kL = some (seqObj "list" (kA.push v) n') := ⟨_, get?_update_seq p2 (·.push v)⟩
    refine wpAny_bind (listUpdate_at p2 rfl ?_ (Nat.le_trans small few) (by rw [Array.size_push]; exact Nat.succ_le_succ (Nat.le_trans small few)))
    have ok : ∀ (u : Value) (e : PyData), Here h1 t2.heap u e → Here h1 (t2.heap.update kL (Obj.mapSeq (·.push v))) u e := fun u e ⟨bs, r, q, m⟩ =>
      ⟨bs, Reads.keepBut (a := kL) (fun b o nb eb => (sb.2 b nb).trans eb) (fun o eb => by rw [p2] at eb; cases eb; rfl) e u bs q r (fun z => m kL z n1), q, m⟩
    have stepKp : KeepsBut l h1 (t2.heap.update kL (Obj.mapSeq (·.push v))) := (kpt.trans_all kp2).same sb (.inr n1)
    have each : EachIs (Here h1 (t2.heap.update kL (Obj.mapSeq (·.push v)))) (kA.push v).toList (kds.take (j + 1)) := by
      have e1 : kds.take (j + 1) = kds.take j ++ [d] := by rw [List.take_add_one, hd]; rfl
      rw [e1, Array.toList_push]
      exact each_snoc (ok v d ⟨as, rd, dd, old⟩) (hk.mono fun u e q => ok u e (q.keeps kp2))
    exact wpAny_pure ⟨rfl, kA.push v, n', hJ _ _ _ j2, stepKp, hn', (sb.2 l ne.symm).trans p3, each⟩
  case done =>
    rintro t ⟨kA, n, hjt, kpt, m2, m3, hk⟩
    have all : kds.take (0 + us.length) = kds := List.take_of_length_le (by omega)
    rw [all] at hk
    have hk2 : EachIs (fun v k => ∃ as, Reads t.heap v k as) kA.toList kds := hk.mono fun v k ⟨as, q, _⟩ => ⟨as, q⟩
    have sz : kA.size = us.length := by
      have e1 := hk2.length
      simp only [Array.length_toList] at e1
      omega
    refine wpAny_bind (listItems_at m2 rfl ?_)
    refine keyH_end (κ := dataKind t.heap kds) (h₁ := h1) kpt n1 m2 m3 ne (SortsAt.data (s := t) hk2 al so un) sz few fun h3 tk3 c k3 n4 => ?_
    exact fin _ _ c (hJ _ _ _ hjt) k3 n4 ⟨t.heap, kA.toList, al, rfl, hk2⟩
end SrtL

set_option maxHeartbeats 4000000
/-! a lambda of one parameter: (-len(ends), ends) -/
namespace SrtL
open PySem PySem.W PySem.Calls PyProof.Rows PySem.Spec
section
variable {pg : Program} {wd : World} {A : Around} {E : Value → Shared → Prop} {t : Shared} {mg mb : Str → Option Value}
end
end SrtL

set_option maxHeartbeats 4000000
/-! sorted(d.values(), key=lambda ends: (-len(ends), ends)) -/
namespace SrtL
open PySem PySem.Spec PyProof.Rows L2
section
variable {X : Cx} {pins : List (Addr × Obj)} {σ : L2.St} {H : Hp} {s : Shared}
end
section
variable [Fu.TabsC] {X : Cx} {pins : List (Addr × Obj)} {σ : L2.St} {H : Hp} {s : Shared}
end
section
variable [Fu.TabsC] {X : Cx}
end
end SrtL

set_option maxHeartbeats 4000000
/-! a dict of own lists: {}, d.setdefault(k, []).append(x), sorted(d.values(), key=..) -/
namespace Fu
open PySem PySem.Spec PyProof.Rows L2
variable [TabsC]
section
variable {K : PySem.W.Frag} {A : List Addr} {F : Hp}
end
section
variable {X : Cx} {P : Hp → Prop} {pos pd py pz pl ap1 ap2 cp1 cp2 : Pos} {ek : Expr} {gk : M D} {y z : Str}
/-! ### sorted(d.values(), key=lambda ends: (-len(ends), ends)) -/
def wiped (S : Sx) : Sx := ⟨S.sl.map fun _ => none, S.os.map fun _ => none⟩
theorem Ok.wiped {K : PySem.W.Frag} {A : List Addr} {F H H1 : Hp} {S : Sx} {σ : L2.St} (k : Ok K A F H S σ) (s : SameT H H1) : Ok K A H1 H1 (wiped S) σ where
  sub := Sub.refl H1
  len := by show (S.sl.map _).length = _; rw [List.length_map]; exact k.len
  alen := by show (S.os.map _).length = _; rw [List.length_map]; exact k.alen
  nd := k.nd
  rslot := fun i r h => by
    have h : (S.sl.map fun _ => (none : Option R))[i]? = some (some r) := h
    rw [List.getElem?_map] at h
    obtain ⟨_, _, e⟩ := Option.map_eq_some_iff.mp h
    cases e
  cell := fun i r h => by
    have h : (S.os.map fun _ => (none : Option Cell))[i]? = some (some r) := h
    rw [List.getElem?_map] at h
    obtain ⟨_, _, e⟩ := Option.map_eq_some_iff.mp h
    cases e
  trk := fun a h => by obtain ⟨o, q, l⟩ := k.trk a h; exact ⟨o, s.old _ _ q l.nt, l⟩
  tab := s.tab (k.tab.ext k.sub.same)
end

/-! ### a def whose code object is known -/
section
variable {P : Program} {w : World} {K : PySem.W.Frag} {mg : Str → Option Value} {base : Heap} {x : Str} {st : Stmt} {N ps : List Str} {k n : Nat} {g : Sx → Option Out}
end
end Fu

set_option maxHeartbeats 4000000
/-! the end of a law whose defs make lambdas -/
namespace Fu
open PySem PySem.Spec PyProof.Rows L2
section
variable [TabsC]
variable {P : Program} {w : World} {K : PySem.W.Frag} {mg : Str → Option Value} {base : Heap} {x qual : Str} {st : Stmt} {f : Addr} {fd : FuncData} {N ps : List Str} {k n : Nat} {g : Sx → Option Out}
end
section
variable [TabsC]
variable {P : Program} {w : World} {K : PySem.W.Frag} {mg : Str → Option Value} {base : Heap} {x qual : Str} {st : Stmt} {f : Addr} {fd : FuncData} {N ps : List Str} {k n : Nat} {g : Sx → Option Out}
end
/-- where no lambda is made -/
instance (priority := low) noTabs : TabsC := ⟨[], []⟩
end Fu

set_option maxHeartbeats 4000000
/-! sorted(set([ints])) -/
namespace SetL
open PySem PySem.Calls PyProof.Rows L2
section
variable {pg : Program} {wd : World} {A : Around} {E : Value → Shared → Prop} {s : Shared}
end
section
variable {pg : Program} {wd : World} {A : Around} {R : Result → Shared → Prop} {I : Addr} {fp wr : List Addr} {G : Array GenState → Array GenState → Prop} {n : Nat} {P : Nat → Value → Prop} {St : Nat → Shared → Prop}
/-- what has come of the first i -/
def Got (w : World) (h : Heap) (a : Addr) (val : Nat → Int) (i : Nat) : Prop := SetR w h a (fun k => (firstMet val i).any (· == k)) (firstMet val i).length
theorem loop (W : WalksS pg wd A.in1 I fp wr G n P St) (a : Addr) (out : a ∉ fp) (val : Nat → Int) (isI : ∀ i v, P i v → ∃ t, v = .int (val i) t) (room : n + 1 < scanBound) :
    ∀ (m i : Nat) (s : Shared), n - i = m → i ≤ n → St i s → Got wd s.heap a val i → (∀ t, Moved (a :: wr) G s t → Got wd t.heap a val n → R (.ok (.ret .none)) t) → codeAny (model pg wd) A (.builtin "set.update.loop" ⟨[.ref a, .ref I], []⟩) R s := by
  have nw : a ∉ wr := fun h => out (W.sub _ h)
  have up : ∀ b ∈ wr, b ∈ a :: wr := fun b hb => List.mem_cons_of_mem _ hb
  intro m
  induction m with
  | zero =>
    intro i s e1 e2 st got fin
    obtain rfl : i = n := by omega
    refine codeAny_builtin PyProof.Rows.F.entry_set_update_loop ?_
    rw [Around.under_plainId PyProof.Rows.F.plain_set_update_loop _]
    show wpAny _ A.in1 (pyNext (.ref I) >>= _) _ _ s
    refine wpAny_bind (W.done s _ _ st fun t mv => ?_)
    show wpAny _ A.in1 (ret Value.none) _ _ t
    exact wpAny_pure (fin t (mv.mono up) (SetR.at got fun o e => mv.heap a o nw e))
  | succ m ih =>
    intro i s e1 e2 st got fin
    have lt : i < n := by omega
    refine codeAny_builtin PyProof.Rows.F.entry_set_update_loop ?_
    rw [Around.under_plainId PyProof.Rows.F.plain_set_update_loop _]
    show wpAny _ A.in1 (pyNext (.ref I) >>= _) _ _ s
    refine wpAny_bind (W.item i s _ _ lt st fun v t hP st2 mv => ?_)
    obtain ⟨tk, rfl⟩ := isI i v hP
    have got2 : Got wd t.heap a val i := SetR.at got fun o e => mv.heap a o nw e
    show wpAny _ A.in1 (holding [Value.int (val i) tk] (setAdd a (.int (val i) tk)) >>= _) _ _ t
    refine wpAny_bind (wpAny_holding ?_)
    unfold setAdd
    refine wpAny_holding ?_
    refine wpAny_bind ((intKind pg wd).pyHash (k := val i) (intKind_is _ _ _ _) ?_)
    have few : (firstMet val i).length + 1 < scanBound := by have := firstMet_length_le val i; omega
    refine setR_add_hashed (P := pg) (s := { t with toks := t.toks + 1 }) got2 few fun g sb r => ?_
    have got3 : Got wd g a val (i + 1) := by
      unfold Got
      have e : (fun k => (firstMet val (i + 1)).any (· == k)) = fun j => (firstMet val i).any (· == j) || decide (j = val i) := by
        funext k
        rw [firstMet_succ, step_any]
      have e' : (firstMet val (i + 1)).length = if (firstMet val i).any (· == val i) = true then (firstMet val i).length else (firstMet val i).length + 1 := by rw [firstMet_succ, step_length]
      rw [e, e']
      exact r
    refine wpAny_pure ⟨plainId_quiet PyProof.Rows.F.plain_set_update_loop _, ih (i + 1) _ (by omega) lt (W.frame _ t _ _ st2 (Nat.le_succ _) fun b hb o e => ?_) got3 fun t2 mv2 got4 => ?_⟩
    · rw [sb.2 b (fun z : b = a => out (z ▸ hb))]; exact e
    · refine fin t2 (Moved.trans W.gtrans ((mv.mono up).then_heap (Nat.le_succ _) fun b o hb e => ?_) mv2) got4
      rw [sb.2 b (fun z : b = a => hb (z ▸ List.mem_cons_self))]; exact e
end
section
variable {pg : Program} {wd : World} {A : Around} {E : Value → Shared → Prop} {s : Shared}
end
end SetL

set_option maxHeartbeats 4000000
/-! set([ints]) with its members, sorted -/
namespace SetL
open PySem PySem.Spec PySem.Calls PyProof.Rows L2
section
variable {X : Cx}
theorem mem_got (ns : List Int) (k : Int) : (firstMet (fun i => ns.getD i 0) ns.length).any (· == k) = true ↔ k ∈ ns := by
  rw [firstMet_any]
  rw [List.any_eq_true]
  constructor
  · rintro ⟨x, hx, e⟩
    obtain ⟨i, hi, rfl⟩ := List.mem_map.mp hx
    have hl := List.mem_range.mp hi
    have := beq_iff_eq.mp e
    subst this
    show ns.getD i 0 ∈ ns
    rw [List.getD_eq_getElem?_getD, List.getElem?_eq_getElem hl]
    exact List.getElem_mem hl
  · intro h
    obtain ⟨i, hl, rfl⟩ := List.mem_iff_getElem.mp h
    refine ⟨ns[i], List.mem_map.mpr ⟨i, List.mem_range.mpr hl, ?_⟩, beq_self_eq_true _⟩
    show ns.getD i 0 = _
    rw [List.getD_eq_getElem?_getD, List.getElem?_eq_getElem hl]
    rfl
theorem mem_met (ns : List Int) (k : Int) : k ∈ firstMet (fun i => ns.getD i 0) ns.length ↔ k ∈ ns := by
  rw [← mem_got ns k, List.any_eq_true]
  exact ⟨fun h => ⟨k, h, beq_self_eq_true k⟩, fun ⟨x, h, e⟩ => by cases beq_iff_eq.mp e; exact h⟩
end
end SetL

set_option maxHeartbeats 4000000
/-! sorted(set(xs)), xs fewer than 64 ints -/
namespace Fu
open PySem PySem.Spec PySem.Calls PyProof.Rows L2 SetL
theorem rps_of_ints [TabsC] {K : PySem.W.Frag} {F : Hp} : ∀ (bs : List Int), Rps K F (bs.map V.int) (bs.map .int)
  | [] => .nil
  | b :: bs => .cons (.int b) (rps_of_ints bs)
section
variable [TabsC] {X : Cx} {pos p p2 pos2 : Pos} {e : Expr} {gs : M (List D)}
end
end Fu

set_option maxHeartbeats 4000000
/-! sum(lists, []) -/
namespace SumL
open PySem PySem.Calls PyProof.Rows L2
def L1 (h : Heap) (a : Addr) (its : Array Value) : Prop := ∃ n, h.get? a = some { cls := .type "list", data := .seq its n }
theorem L1.at {h g : Heap} {a : Addr} {its : Array Value} (k : L1 h a its) (f : ∀ o, h.get? a = some o → g.get? a = some o) : L1 g a its := k.elim fun n e => ⟨n, f _ e⟩
/-- the first i lists, one behind the other -/
def pre (cs : Nat → Array Value) : Nat → Array Value
  | 0 => #[]
  | i + 1 => pre cs i ++ cs i
section
variable {pg : Program} {wd : World} {A : Around} {R : Result → Shared → Prop} {I : Addr} {fp wr : List Addr} {G : Array GenState → Array GenState → Prop} {n : Nat} {P : Nat → Value → Prop} {St : Nat → Shared → Prop}
theorem loop (W : WalksS pg wd A.in1 I fp wr G n P St) (h₀ : Heap) (cs : Nat → Array Value) (ad : Nat → Addr) (isR : ∀ (i : Nat) (v : Value), P i v → v = Value.ref (ad i)) (hcs : ∀ i, i < n → L1 h₀ (ad i) (cs i)) (room : ∀ i, i < n → (pre cs i).size + (cs i).size ≤ sizeLine)
    (S : Addr) (hSf : S ∉ fp) (hSz : h₀.objs.size ≤ S) (hw0 : ∀ b ∈ wr, h₀.objs.size ≤ b ∧ b < S) (T0 : Addr) (hT0 : L1 h₀ T0 #[]) :
    ∀ (k i : Nat) (s : Shared) (T : Addr) (c : Nat), n - i = k → i ≤ n → St i s → s.heap.get? S = some { cls := .type "list", dict := none, data := .seq #[.ref T] c, slots := #[] } →
    (∀ b o, h₀.get? b = some o → s.heap.get? b = some o) → L1 s.heap T (pre cs i) → T ∉ S :: wr → (i = 0 → T = T0) → (0 < i → h₀.objs.size ≤ T) →
    (∀ s' T', Moved (S :: wr) G s s' → (∀ b o, h₀.get? b = some o → s'.heap.get? b = some o) → L1 s'.heap T' (pre cs n) → (n = 0 → T' = T0) → (0 < n → h₀.objs.size ≤ T') → R (.ok (.ret (.ref T'))) s') →
    codeAny (model pg wd) A (.builtin "sum.loop" ⟨[.ref I, .ref S, rawInt 2, rawInt 0], []⟩) R s := by
  have hSw : S ∉ wr := fun h => hSf (W.sub _ h)
  have hsub : ∀ b ∈ wr, b ∈ S :: wr := fun b hb => List.mem_cons_of_mem _ hb
  have old : ∀ b o, h₀.get? b = some o → b ∉ S :: wr := fun b o e hb => by
    have hlt := Heap.lt_size e
    rcases List.mem_cons.mp hb with rfl | hb
    · exact Nat.not_lt_of_le hSz hlt
    · exact Nat.not_lt_of_le (hw0 b hb).1 hlt
  intro k
  induction k with
  | zero =>
    intro i s T c hk hi hst hS kp hT hTn t0 t1 hR
    have hin : i = n := by omega
    subst hin
    refine codeAny_builtin PySem.F.entry_sum_loop ?_
    rw [Around.under_plainId PySem.F.plain_sum_loop _]
    show wpAny _ A.in1 (seqItems? (.ref S) >>= _) _ _ s
    refine wpAny_bind (wpAny_seqItems hS rfl ?_)
    show wpAny _ A.in1 (tryCatch (pyNext (.ref I)) _ >>= _) _ _ s
    refine wpAny_bind (wpAny_tryCatch (W.done s _ _ hst fun s' hm => ?_))
    exact wpAny_pure (hR s' T (hm.mono hsub) (fun b o e => hm.heap b o (fun z => old b o e (hsub b z)) (kp b o e)) (hT.at fun o e => hm.heap T o (fun z => hTn (hsub _ z)) e) t0 t1)
  | succ k ih =>
    intro i s T c hk hi hst hS kp hT hTn t0 t1 hR
    have hlt : i < n := by omega
    refine codeAny_builtin PySem.F.entry_sum_loop ?_
    rw [Around.under_plainId PySem.F.plain_sum_loop _]
    show wpAny _ A.in1 (seqItems? (.ref S) >>= _) _ _ s
    refine wpAny_bind (wpAny_seqItems hS rfl ?_)
    show wpAny _ A.in1 (tryCatch (pyNext (.ref I)) _ >>= _) _ _ s
    refine wpAny_bind (wpAny_tryCatch (W.item i s _ _ hlt hst fun v s' hP hst' hm => ?_))
    obtain rfl := isR i v hP
    have hS' := hm.heap S _ hSw hS
    have kp' : ∀ b o, h₀.get? b = some o → s'.heap.get? b = some o := fun b o e => hm.heap b o (fun z => old b o e (hsub b z)) (kp b o e)
    obtain ⟨n1, hT'⟩ := hT.at fun o e => hm.heap T o (fun z => hTn (hsub _ z)) e
    obtain ⟨n2, hI'⟩ := (hcs i hlt).at fun o e => kp' _ o e
    show wpAny _ A.in1 ((holding [Value.ref (ad i)] (binaryOp .Add (.ref T) (.ref (ad i)))).attempt >>= _) _ _ _
    refine wpAny_bind (wpAny_attempt (wpAny_holding (PySem.P.add_list hT' hI' ?_ (room i hlt))))
    show wpAny _ A.in1 (updateSeq S (fun _ => #[.ref s'.heap.objs.size]) >>= _) _ _ _
    have hSl : S < s'.heap.objs.size := Heap.lt_size hS'
    have hS1 : (s'.heap.push { cls := .type "list", data := .seq (pre cs i ++ cs i) }).get? S = _ := Heap.get?_push_of_some _ hS'
    refine wpAny_bind (wpAny_updateSeq hS1 rfl ?_)
    have hS₂ := Heap.get?_update_self (Obj.mapSeq fun _ => #[Value.ref s'.heap.objs.size]) hS1 rfl
    refine wpAny_bind (wpAny_letGo ?_)
    have up : ∀ b o, b ≠ S → s'.heap.get? b = some o → (((s'.heap.push { cls := .type "list", data := .seq (pre cs i ++ cs i) }).update S (Obj.mapSeq fun _ => #[Value.ref s'.heap.objs.size])).update S (Obj.mapSeq fun _ => #[Value.ref s'.heap.objs.size])).get? b = some o := fun b o hb e =>
      (Heap.get?_update_other _ _ (fun h : S = b => hb h.symm)).trans ((Heap.get?_update_other _ _ (fun h : S = b => hb h.symm)).trans (Heap.get?_push_of_some _ e))
    have hnew : (((s'.heap.push { cls := .type "list", data := .seq (pre cs i ++ cs i) }).update S (Obj.mapSeq fun _ => #[Value.ref s'.heap.objs.size])).update S (Obj.mapSeq fun _ => #[Value.ref s'.heap.objs.size])).get? s'.heap.objs.size = some { cls := .type "list", data := .seq (pre cs i ++ cs i) } :=
      (Heap.get?_update_other _ _ (fun h : S = _ => Nat.ne_of_lt hSl h)).trans ((Heap.get?_update_other _ _ (fun h : S = _ => Nat.ne_of_lt hSl h)).trans (Heap.get?_push_size _ rfl))
    refine wpAny_bind (wpAny_updateSeq hS₂ rfl (wpAny_pure ⟨plainId_quiet PySem.F.plain_sum_loop _, ih (i + 1) _ s'.heap.objs.size _ (by omega) hlt (W.frame _ s' _ _ hst' (Nat.le_refl _) fun b hb o e => up b o (fun z => hSf (z ▸ hb)) e) (Heap.get?_update_self _ hS₂ rfl) (fun b o e => up b o (fun z => old b o e (z ▸ List.mem_cons_self)) (kp' b o e)) ⟨_, hnew⟩ (fun z => ?_) (fun z => absurd z (Nat.succ_ne_zero _)) (fun _ => Nat.le_of_lt (Nat.lt_of_le_of_lt hSz hSl)) fun s'' T'' hm'' k'' l'' z0 z1 => ?_⟩))
    · rcases List.mem_cons.mp z with z | z
      · exact Nat.ne_of_gt hSl z
      · exact Nat.lt_irrefl _ (Nat.lt_trans hSl (hw0 _ z).2)
    · refine hR s'' T'' (Moved.trans W.gtrans ((hm.mono hsub).then_heap (Nat.le_refl _) fun b o hb e => ?_) hm'') k'' l'' z0 z1
      exact up b o (fun z => hb (z ▸ List.mem_cons_self)) e
end
section
variable {pg : Program} {wd : World} {A : Around} {E : Value → Shared → Prop} {s : Shared}
end
end SumL

set_option maxHeartbeats 4000000
/-! sum(lists, []): the layer's rule -/
namespace Fu
open PySem PySem.Spec PySem.Calls PyProof.Rows L2 SumL
section
variable {X : Cx}
end
/-! the data -/
section
variable [TabsC]
variable {X : Cx} {pos p p2 : Pos} {e : Expr} {es : List Expr} {gs : M (List D)}
end
end Fu

set_option maxHeartbeats 4000000
/-! xs.remove(x) of an own list -/
namespace Fu
open PySem PySem.Spec PyProof.Rows L2
variable [TabsC]
def rRemD (K : PySem.W.Frag) : V → List V → Hp → VK → Prop := fun x xs H Q => ∃ (l : Addr) (vs : List V) (v : V) (ds : List D) (d : D) (j : Nat), x = .ref l ∧ xs = [v] ∧ H l = some (.lst vs) ∧ DpAll K H vs ds ∧ Dp K H v d ∧ PyData.canLayAll0 ds = true ∧ d.canLay0 = true ∧ d.depth ≤ 60 ∧ SeqAt.dataPlace ds d = some j ∧ Q .non (upd H l (.lst (vs.eraseIdx j)))
theorem mt_removeD {X : Cx} {k : Nat} (hr : Room k X.A) : MtM X "list.remove" (rRemD X.K) := by
  intro pins s σ H x xs v us Q I rx rxs h
  obtain ⟨l, vs, y, ds, d, j, rfl, rfl, hH, hd, hy, c1, c2, dp, pl, q⟩ := h
  cases rx
  obtain ⟨u, rfl, ru⟩ := rxs.one
  obtain ⟨z, its, n, r, hl, e⟩ := I.lstM hH
  obtain ⟨as, r1⟩ := Dp.readsAll I ds _ its hd r
  obtain ⟨bs, r2⟩ := Dp.reads I d _ _ hy ru
  have hun := hr.un
  refine SeqAt.remove_list_data (vs := its.toArray) ⟨_, e, rfl, n, rfl⟩ (by simpa using r1) r2 (PyData.plainAll_of_canLay0 _ c1) (PyData.plain_of_canLay0 _ c2) (by omega) pl (by rw [List.size_toArray]; omega) ?_
  refine ⟨.non, _, I.lset (its' := its.eraseIdx j) hH e ?_ (r.eraseIdx j) ?_, rfl, q⟩
  · show its.toArray.eraseIdxIfInBounds j = (its.eraseIdx j).toArray
    rw [List.eraseIdxIfInBounds_toArray]
  · have := len_erase vs j
    omega
def gRem (i : Nat) (ge : M D) : M D := fun S => (ownOf S i).bind fun o => (ge S).bind fun p => (cellOf p.2 o.1).bind fun cs =>
  if PyData.canLayAll0 cs = true ∧ p.1.canLay0 = true ∧ p.1.depth ≤ 60 then (SeqAt.dataPlace cs p.1).bind fun j => some (.none, setCell p.2 o.1 (cs.eraseIdx j)) else none
section
variable {X : Cx} {pos py apos : Pos} {e : Expr} {ge : M D} {k : Nat} {y : Str}
theorem e_remove (hr : Room k X.A) (i : Nat) (he : GE X e ge) (hN : X.N[i]? = some y := by rfl) (hv : Vis X.env.scope y := by first | exact Or.inl rfl | exact Or.inr (Or.inl rfl) | exact Or.inr (Or.inr rfl)) (hdy : (y == ("__debug__" : Str)) = false := by decide) (hcd : (y == ("__classdict__" : Str)) = false := by decide)
    (hbase : attributeBase (.Name y py) "remove" X.env (eval (.Name y py) X.env) = eval (.Name y py) X.env := by rfl)
    (hfew : ((backTo pos (starEach [e] X.env)).all (fun x => !x.1) && (backToKw pos (keywordEach [] X.env)).all (fun x => x.1.isSome) && decide (([e] : List Expr).length + ([] : List Keyword).length + (if ([] : List Keyword).isEmpty then 0 else 1) < 30)) = true := by rfl)
    (hline : (apos.endLine == pos.line) = true := by rfl) (hst : starEach [e] X.env = (false, eval e X.env) :: starEach [] X.env := by rfl) : GE X (.Call (.Attribute (.Name y py) "remove" apos) [e] [] pos) (gRem i ge) := by
  obtain ⟨t, pa, ra⟩ := he.ex
  refine ⟨_, pe_bm PySem.F.plainAttrs_list PySem.F.slot_list_remove PySem.F.type_list_remove (mt_removeD hr) (pe_var hN hv hdy hcd) (pa_cons pa pa_nil hst) hbase hfew hline hst (by rfl), fun A F H S σ d S' Q k h post => ?_⟩
  obtain ⟨⟨j, cs0⟩, e0, h⟩ := bind_inv h
  obtain ⟨⟨x, S1⟩, e1, h⟩ := bind_inv h
  obtain ⟨cs, e2, h⟩ := bind_inv h
  simp only at h e2
  split at h
  case isFalse => cases h
  rename_i ok
  obtain ⟨jj, e3, h⟩ := bind_inv h
  cases h
  obtain ⟨a, vs0, _, _, ha, ev, _, hv0, _, _⟩ := own_at k e0
  refine ⟨_, ev, .inl ⟨rfl, _, SqL.of hv0⟩, ra A F H S σ _ S1 _ k e1 fun A1 F1 H1 v p1 s1 k1 r1 => ?_⟩
  obtain ⟨vs, ec, fa, hv', rr, hz⟩ := cell_at k1 e2 (prefix_at p1 ha)
  refine ⟨a, vs, v, cs, x, jj, rfl, rfl, hv', Rps.dp _ _ ok.1 (Rps.mono k1.sub.same.t _ _ rr), Rp.dp _ _ ok.2.1 (r1.mono k1.sub.same.t _ _), ok.1, ok.2.1, ok.2.2, e3, ?_⟩
  refine post A1 F1 _ .non p1 s1 (k1.cellSet ec (prefix_at p1 ha) trivial ⟨_, upd_same, rr.erase _, ?_⟩) .non
  have := len_erase cs jj
  omega
end
end Fu

set_option maxHeartbeats 4000000
/-! (a, b) = a tuple or a list -/
namespace Fu
open PySem PySem.Spec PyProof.Rows L2
variable [TabsC]
def sSeq (n : Nat) (gs : List D → Sx → Option Sx) : D → Sx → Option Sx := fun d S => match d with
  | .tuple ds => if ds.length = n then gs ds S else none
  | .list ds => if ds.length = n then gs ds S else none
  | _ => none
section
variable {X : Cx} {pos : Pos} {es : List Expr} {gs : List D → Sx → Option Sx} {ts : List Nat} {n : Nat}
theorem pg_or {e : Expr} {t u : TG} (h : PG X e t) (k : PG X e u) : PG X e (fun v σ H Q => t v σ H Q ∨ u v σ H Q) :=
  ⟨fun pins s σ H v w Q I r hw => hw.elim (fun z => h.run pins s σ H v w Q I r z) (fun z => k.run pins s σ H v w Q I r z)⟩
theorem g_seq {k} (h : GGs X ts es gs) (hc : X.calm = true := by rfl) (hn : (assignEach es X.env).length = n := by rfl) (hst : (assignEach es X.env).findIdx? (·.1) = none := by rfl) : GG X ts (.Tuple es k pos) (sSeq n gs) := by
  obtain ⟨t, p1, r1⟩ := h.ex
  refine ⟨_, pg_or (pg_tup hc p1 hn hst) (pg_unl hc p1 hn hst), fun A F H S σ v d S' Q k r e post => ?_⟩
  cases d <;> simp only [sSeq] at e <;> try cases e
  · split at e
    · rename_i hl
      obtain ⟨a, vs, rfl, g1, g2, g3⟩ := rp_list_inv r
      exact .inr ⟨a, vs, rfl, SqL.of (k.sub.same _ _ g1), by rw [g2.length]; exact hl, r1 A F H S σ vs _ S' Q k g2 e post⟩
    · cases e
  · split at e
    · rename_i hl
      obtain ⟨a, vs, rfl, g1, g2, g3⟩ := rp_tup_inv r
      exact .inl ⟨a, vs, rfl, sqT_same k.sub.same.t g1, by rw [g2.length]; exact hl, r1 A F H S σ vs _ S' Q k g2 e post⟩
    · cases e
end
end Fu

set_option maxHeartbeats 4000000
/-! name = [..] on one line, in a look -/
namespace Fu
open PySem PySem.Spec PyProof.Rows L2
variable [TabsC]
theorem rdN_view {K : PySem.W.Frag} {t : TE} {g : M D} (r : RdN K t g) : RdN K t (gViewN g) := fun A F H S σ d S' Q k e post => by
  obtain ⟨⟨d, S1⟩, e1, e⟩ := bind_inv e
  simp only at e
  split at e
  · rename_i ds
    split at e
    · rename_i hz
      cases e
      refine r A H H _ σ _ S1 Q k.view e1 fun A1 F1 G p vs ds' p1 s1 k1 hp ed r1 hl => ?_
      cases ed
      have sm : SameT H G := s1.trans k1.sub.same.t
      obtain ⟨s2, k2⟩ := k.newH sm
      exact post A _ G p vs _ (List.prefix_refl _) s2 k2 hp rfl (Rps.hard (fun b xs q => newH_get k sm _ (k1.sub.same.t.old _ _ q trivial) (fun z => z)) _ _ hz r1) hl
    · cases e
  · cases e
section
variable {X : Cx} {P : Hp → Prop} {ge : M D}
theorem s_setLcV {i : Nat} {st : Stmt} (h : Lc1 X i st ge) : GS X P st (qSet i (gViewN ge)) := let ⟨_, p, r⟩ := h.ex; ⟨_, p, rd_asgN i (rdN_view r).e⟩
end
end Fu

set_option maxHeartbeats 4000000
/-! {k: v for ..} as an own cell, d.get(k, v), len(d), dict(pairs) -/
namespace Fu
open PySem PySem.Spec PyProof.Rows L2 RZ
variable [TabsC]
section
variable {K : PySem.W.Frag}
end
section
variable {X : Cx} {pos : Pos} {kx vx tg iter : Expr} {ifs : List Expr} {scope : Scope} {gi : M (List D)} {gg : D → Sx → Option Sx} {gt : M Bool} {gk ge : M D} {tgt : List Nat} {P : Hp → Prop}
variable {p py : Pos} {y : Str}
end
end Fu

set_option maxHeartbeats 4000000
/-! dict(pairs), n in d.values() -/
namespace InV
open PySem PySem.Calls PyProof.Rows L2
theorem ci_entry : entryFor table "proto.contains_iter" = some Builtin.«proto.contains_iter» := entryFor_of_tree (by kernel_rfl)
theorem ci_plain : plainId "proto.contains_iter" = true := by decide +kernel
section
variable {pg : Program} {wd : World} {K : Type} [DecidableEq K] {knd : KeyKind pg wd K} {A : Around} {E : Value → Shared → Prop}
theorem loop {R : Result → Shared → Prop} (hh : A.handled = none) (h₀ : Heap) {it d : Addr} {ep : Nat} {kvs : List (K × Value)} (ms : List Int) (n : Int) (tn : Tok) (hit0 : h₀.get? it = none) (hne : d ≠ it)
    (hv : ∀ (i : Nat) (k : K) (v : Value), kvs[i]? = some (k, v) → ∃ m t, ms[i]? = some m ∧ v = .int m t) (hlen : kvs.length = ms.length) :
    ∀ (k i : Nat) (s : Shared), ms.length - i = k → i ≤ ms.length → s.heap.IsValIter it d i kvs.length ep → s.heap.DictAt knd d kvs ep → (∀ b o, h₀.get? b = some o → s.heap.get? b = some o) →
    (∀ h', (∀ b o, h₀.get? b = some o → h'.get? b = some o) → R (.ok (.ret (.bool ((ms.drop i).contains n)))) { s with heap := h' }) →
    codeAny (model pg wd) A (.builtin "proto.contains_iter" ⟨[.ref it, .int n tn], []⟩) R s := by
  intro k
  induction k with
  | zero =>
    intro i s hk hi hst hd kp hR
    have hin : i = ms.length := by omega
    subst hin
    refine codeAny_builtin ci_entry ?_
    rw [Around.under_plainId ci_plain _]
    show wpAny _ A.in1 (pyNext (.ref it) >>= _) _ _ s
    refine wpAny_bind (wpAny_pyNext_values_end (A := A.in1) (by simp [hh]) hst hd (by rw [List.getElem?_eq_none]; omega) fun h' he => ?_)
    have := hR h' fun b o e => he b o (fun z => by subst z; rw [hit0] at e; cases e) (kp b o e)
    rw [List.drop_length] at this
    exact wpAny_bind (wpAny_rule (wpAny_pure this))
  | succ k ih =>
    intro i s hk hi hst hd kp hR
    have hlt : i < ms.length := by omega
    obtain ⟨⟨ky, v⟩, hx⟩ : ∃ p, kvs[i]? = some p := ⟨kvs[i], by simp [hlen, hlt]⟩
    obtain ⟨m, t, em, rfl⟩ := hv i ky v hx
    refine codeAny_builtin ci_entry ?_
    rw [Around.under_plainId ci_plain _]
    show wpAny _ A.in1 (pyNext (.ref it) >>= _) _ _ s
    refine wpAny_bind (wpAny_pyNext_values_item hst hd hx fun h' hit' hs' => ?_)
    refine wpAny_bind (wpAny_eqBool_int ?_)
    have kp' : ∀ b o, h₀.get? b = some o → h'.get? b = some o := fun b o e => hs'.extBut b o (fun z => by subst z; rw [hit0] at e; cases e) (kp b o e)
    have ed : ms.drop i = m :: ms.drop (i + 1) := by
      rw [List.drop_eq_getElem_cons hlt]
      congr 1
      rw [List.getElem?_eq_getElem hlt] at em
      exact Option.some.inj em
    cases hb : (m == n) with
    | true =>
      simp only [if_true]
      refine wpAny_bind (wpAny_rule (wpAny_pure ?_))
      have := hR h' kp'
      rw [ed, List.contains_cons] at this
      have e : n = m := (eq_of_beq hb).symm
      subst e
      simpa using this
    | false =>
      simp only [Bool.false_eq_true, if_false]
      refine wpAny_pure ⟨plainId_quiet ci_plain _, ih (i + 1) _ (by omega) hlt hit' (hd.extBut hs'.extBut hne) kp' fun h'' kp'' => ?_⟩
      have := hR h'' kp''
      rw [ed, List.contains_cons] at this
      have e : (n == m) = false := by
        rw [beq_eq_false_iff_ne] at hb ⊢
        exact fun z => hb z.symm
      rw [e, Bool.false_or] at this
      exact this
end
section
variable {X : Cx}
end
end InV
namespace Fu
open PySem PySem.Spec PyProof.Rows L2 InV
variable [TabsC]
def intVals : List (Key × R) → Option (List Int)
  | [] => some []
  | (_, .dat (.int n)) :: r => (intVals r).bind fun ns => some (n :: ns)
  | _ => none
theorem vals_ints {K : PySem.W.Frag} {A : List Addr} {F : Hp} : ∀ {vs : List (Key × V)} {kvs : List (Key × R)} {ns : List Int}, PairR K A F vs kvs → intVals kvs = some ns → vs.map (·.2) = ns.map V.int
  | _, _, _, .nil, h => by cases h; rfl
  | (k1, v) :: vs, (k2, r) :: kvs, ns, .cons ⟨e, h⟩ t, hi => by
    cases r with
    | dat d =>
      cases d with
      | int n =>
        obtain ⟨ns', h1, h2⟩ := bind_inv hi
        cases h2
        have h : Rr K A F v (.dat (.int n)) := h
        cases h with
        | dat h =>
          cases rp_int_inv h
          rw [List.map_cons, List.map_cons, vals_ints t h1]
      | _ => cases hi
    | _ => cases hi
section
variable {X : Cx} {pos py apos cpos p : Pos} {e e0 : Expr} {ge : M D} {y : Str} {gs : M (List D)}
end
/-! ### dict(pairs) -/
section
variable {X : Cx} {pos p : Pos} {e : Expr} {gs : M (List D)}
end
end Fu

set_option maxHeartbeats 4000000
/-! {k: v} with a number or a text as its key, held as data: what it holds is not told -/
namespace Fu
open PySem PySem.Spec PyProof.Rows L2
variable [TabsC]
section
variable {X : Cx} {e v : Expr} {pos : Pos} {ge gv : M D}
end
end Fu

set_option maxHeartbeats 4000000
/-! sorted(set([texts])) -/
namespace SetS
open PySem PySem.Calls PyProof.Rows L2 PySem.Froz
section
variable {P : Program} {w : World} {h h' : Heap} {a : Addr} {l : List Str}
/-- the set of texts at a, its members l; its table rises and can be walked -/
def SetT (P : Program) (w : World) (h : Heap) (a : Addr) (l : List Str) : Prop := ∃ D : SD, h.get? a = some (sObj "set" D) ∧ TxOk P w D l ∧ l.Nodup ∧ Ris D.2.2.place.toList ∧ (w.params.followText "set-order" = true ∨ D.2.2.led = true)
theorem SetT.at (R : SetT P w h a l) (k : ∀ o, h.get? a = some o → h'.get? a = some o) : SetT P w h' a l := by
  obtain ⟨D, h1, r⟩ := R
  exact ⟨D, k _ h1, r⟩
theorem tail_ris {ep : Nat} {es1 : Array (Int × Value)} {t2 : SetTable} {b : Bool} (r : Ris t2.place.toList) : Ris (tailTx ep es1 t2 b).2.2.place.toList := by
  unfold tailTx
  split
  · exact relayAll_ris _ _ _
  · exact r
theorem tail_led {ep : Nat} {es1 : Array (Int × Value)} {t2 : SetTable} {b : Bool} : (tailTx ep es1 t2 b).2.2.led = t2.led := by
  unfold tailTx
  split
  · exact relayAll_led _ _ _
  · rfl
theorem add_ris {D : SD} {x : Int} {v : Value} (r : Ris D.2.2.place.toList) : Ris (addTx x v D).2.2.place.toList := by
  unfold addTx
  refine tail_ris ?_
  have h1 := layNew_ris D.2.2 D.1 x v r
  split
  · exact h1
  · exact h1
theorem add_led {D : SD} {x : Int} {v : Value} : (addTx x v D).2.2.led = D.2.2.led := by
  unfold addTx
  refine tail_led.trans ?_
  have h1 := layNew_led D.2.2 D.1 x v
  split
  · exact h1
  · exact h1
def insT (l : List Str) (k : Str) : List Str := if k ∈ l then l else k :: l
theorem insT_len {l : List Str} {k : Str} : (insT l k).length ≤ l.length + 1 := by
  unfold insT
  split
  · omega
  · rw [List.length_cons]; exact Nat.le_refl _
end
section
variable {P : Program} {w : World} {A : Around} {E : Value → Shared → Prop} {s : Shared} {a : Addr} {l : List Str}
theorem setT_add {k : Str} {u : Tok} {Q : Bool → Shared → Prop} (R : SetT P w s.heap a l) (hb : l.length + 1 < scanBound)
    (hQ : ∀ b h', Heap.SameBut a s.heap h' → SetT P w h' a (insT l k) → Q b { s with heap := h' }) : wpAny (model P w) A (setAddHashed a (.str k u) (hashStr w k)) Q E s := by
  obtain ⟨D, ho, F, nd, r, hl⟩ := R
  by_cases hk : k ∈ l
  · obtain ⟨es, ep, t⟩ := D
    have hd : (sObj "set" (es, ep, t)).data = .set es ep t := rfl
    have hf : t.fits es.size = true := F.fit
    have hel : ElemsOf (strKind P w) es.toList := F.el
    have hsz : es.size = l.length := F.sz
    have hb0 : es.size < scanBound := by omega
    have hkey : (strKind P w).is k (.str k u) = true := is_str k u
    unfold setAddHashed setAddHashedIn
    refine wpAny_holding (wpAny_bind (wpAny_setState_of ho hd hf ?_))
    dsimp only
    rw [byScan_of rfl hb0 hel]
    simp only [↓reduceIte]
    unfold setAddByScan
    refine wpAny_bind ?_
    refine wpAny_bind (wpAny_rule ?_)
    refine wpAny_bind (wpAny_setScan_of (knd := strKind P w) (k := k) hkey ho hd hf hel ?_)
    cases hfi : List.findIdx? (fun e => (strKind P w).is k e.2) es.toList with
    | some j =>
      dsimp only
      refine wpAny_pure (wpAny_pure (hQ _ s.heap (Heap.SameBut.refl a s.heap) ?_))
      unfold insT
      rw [if_pos hk]
      exact ⟨(es, ep, t), ho, F, nd, r, hl⟩
    | none =>
      obtain ⟨e, he, z⟩ := (F.mem k).mp hk
      have := List.findIdx?_eq_none_iff.mp hfi e he
      rw [z] at this
      cases this
  · refine add_x ho F hk hb (hQ _ _ (Heap.SameBut.update _ a _) ?_)
    unfold insT
    rw [if_neg hk]
    refine ⟨_, get_upd _ ho rfl, add_ok u F, List.nodup_cons.mpr ⟨hk, nd⟩, add_ris r, ?_⟩
    rw [add_led]
    exact hl
end
section
variable {pg : Program} {wd : World} {A : Around} {E : Value → Shared → Prop} {s : Shared}
end
section
variable {pg : Program} {wd : World} {A : Around} {R : Result → Shared → Prop} {I : Addr} {fp wr : List Addr} {G : Array GenState → Array GenState → Prop} {n : Nat} {P : Nat → Value → Prop} {St : Nat → Shared → Prop}
def gotL (val : Nat → Str) : Nat → List Str
  | 0 => []
  | i + 1 => insT (gotL val i) (val i)
theorem gotL_len (val : Nat → Str) : ∀ i, (gotL val i).length ≤ i
  | 0 => Nat.le_refl _
  | i + 1 => Nat.le_trans insT_len (Nat.succ_le_succ (gotL_len val i))
/-- what has come of the first i -/
abbrev Got (P : Program) (w : World) (h : Heap) (a : Addr) (val : Nat → Str) (i : Nat) : Prop := SetT P w h a (gotL val i)
theorem loop (W : WalksS pg wd A.in1 I fp wr G n P St) (a : Addr) (out : a ∉ fp) (val : Nat → Str) (isI : ∀ i v, P i v → ∃ t, v = .str (val i) t) (room : n + 1 < scanBound) :
    ∀ (m i : Nat) (s : Shared), n - i = m → i ≤ n → St i s → Got pg wd s.heap a val i → (∀ t, Moved (a :: wr) G s t → Got pg wd t.heap a val n → R (.ok (.ret .none)) t) → codeAny (model pg wd) A (.builtin "set.update.loop" ⟨[.ref a, .ref I], []⟩) R s := by
  have nw : a ∉ wr := fun h => out (W.sub _ h)
  have up : ∀ b ∈ wr, b ∈ a :: wr := fun b hb => List.mem_cons_of_mem _ hb
  intro m
  induction m with
  | zero =>
    intro i s e1 e2 st got fin
    obtain rfl : i = n := by omega
    refine codeAny_builtin PyProof.Rows.F.entry_set_update_loop ?_
    rw [Around.under_plainId PyProof.Rows.F.plain_set_update_loop _]
    show wpAny _ A.in1 (pyNext (.ref I) >>= _) _ _ s
    refine wpAny_bind (W.done s _ _ st fun t mv => ?_)
    show wpAny _ A.in1 (ret Value.none) _ _ t
    exact wpAny_pure (fin t (mv.mono up) (SetT.at got fun o e => mv.heap a o nw e))
  | succ m ih =>
    intro i s e1 e2 st got fin
    have lt : i < n := by omega
    refine codeAny_builtin PyProof.Rows.F.entry_set_update_loop ?_
    rw [Around.under_plainId PyProof.Rows.F.plain_set_update_loop _]
    show wpAny _ A.in1 (pyNext (.ref I) >>= _) _ _ s
    refine wpAny_bind (W.item i s _ _ lt st fun v t hP st2 mv => ?_)
    obtain ⟨tk, rfl⟩ := isI i v hP
    have got2 : Got pg wd t.heap a val i := SetT.at got fun o e => mv.heap a o nw e
    show wpAny _ A.in1 (holding [Value.str (val i) tk] (setAdd a (.str (val i) tk)) >>= _) _ _ t
    refine wpAny_bind (wpAny_holding ?_)
    unfold setAdd
    refine wpAny_holding ?_
    refine wpAny_bind ((strKind pg wd).pyHash (k := val i) (is_str _ _) ?_)
    have few : (gotL val i).length + 1 < scanBound := by have := gotL_len val i; omega
    refine setT_add (P := pg) (s := { t with toks := t.toks + 1 }) got2 few fun b g sb r => ?_
    refine wpAny_pure ⟨plainId_quiet PyProof.Rows.F.plain_set_update_loop _, ih (i + 1) _ (by omega) lt (W.frame _ t _ _ st2 (Nat.le_succ _) fun b hb o e => ?_) r fun t2 mv2 got4 => ?_⟩
    · rw [sb.2 b (fun z : b = a => out (z ▸ hb))]; exact e
    · refine fin t2 (Moved.trans W.gtrans ((mv.mono up).then_heap (Nat.le_succ _) fun b o hb e => ?_) mv2) got4
      rw [sb.2 b (fun z : b = a => hb (z ▸ List.mem_cons_self))]; exact e
end
section
variable {pg : Program} {wd : World} {A : Around} {E : Value → Shared → Prop} {s : Shared}
end
end SetS

set_option maxHeartbeats 4000000
/-! set([texts]) with its members, sorted; the layer's rule for texts of one sign -/
namespace SetS
open PySem PySem.Spec PySem.Calls PyProof.Rows L2 PySem.Froz
section
variable {X : Cx}
end
section
variable {P : Program} {w : World} {A : Around} {E : Value → Shared → Prop} {s : Shared} {a : Addr} {l : List Str}
end
section
variable {X : Cx}
end
end SetS
namespace Fu
open PySem PySem.Spec PySem.Calls PyProof.Rows L2 SetS
section
variable [TabsC] {X : Cx} {pos p p2 pos2 : Pos} {e : Expr} {gs : M (List D)}
end
end Fu

set_option maxHeartbeats 4000000
/-! dicts whose keys are tuples of ints: an own one, written; told as data; read -/
namespace Fu
open PySem PySem.Spec PyProof.Rows L2
variable [TabsC]
def kk (ks : List Int) : List Key := ks.map Sum.inl
theorem kk_V (ks : List Int) : (kk ks).map kV = ks.map V.int := by
  unfold kk; rw [List.map_map]; rfl
theorem kk_inj {a b : List Int} (h : kk a = kk b) : a = b := by
  have : ∀ {a b : List Int}, kk a = kk b → a = b := by
    intro a
    induction a with
    | nil => intro b h; cases b with | nil => rfl | cons _ _ => cases h
    | cons x a ih =>
      intro b h
      cases b with
      | nil => cases h
      | cons y b =>
        have h : (Sum.inl x : Key) :: kk a = Sum.inl y :: kk b := h
        injection h with h1 h2
        rw [Sum.inl.inj h1, ih h2]
  exact this h
def unkk : List Key → Option (List Int)
  | [] => some []
  | .inl n :: r => (unkk r).bind fun ns => some (n :: ns)
  | _ => none
theorem unkk_eq : ∀ {k : List Key} {ns : List Int}, unkk k = some ns → k = kk ns
  | [], _, h => by cases h; rfl
  | .inl n :: r, _, h => by
    obtain ⟨ns, h1, h2⟩ := bind_inv h
    cases h2
    rw [unkk_eq h1]; rfl
  | .inr _ :: _, _, h => by simp [unkk] at h
theorem unkk_kk : ∀ ns : List Int, unkk (kk ns) = some ns
  | [] => rfl
  | n :: ns => by
    show (unkk (kk ns)).bind _ = _
    rw [unkk_kk ns]; rfl
def tkOf : D → Option (List Int)
  | .tuple ds => allInts ds
  | _ => none
section
variable {K : PySem.W.Frag} {A : List Addr} {F : Hp}
theorem tk_of {v : V} {d : D} {ks : List Int} (h : tkOf d = some ks) (r : Rp K F v d) : d = .tuple (ks.map .int) ∧ ∃ b, v = .ref b ∧ F b = some (.tup (ks.map V.int)) ∧ ks.length ≤ sizeLine := by
  cases d with
  | tuple ds =>
    have e := allInts_map (show allInts ds = some ks from h)
    subst e
    obtain ⟨b, xs, rfl, h1, h2, h3⟩ := rp_tup_pl r
    rw [rps_ints h2] at h1
    exact ⟨rfl, b, rfl, h1, by rwa [List.length_map] at h3⟩
  | _ => cases h
theorem rp_of_tk {b : Addr} {ks : List Int} (h : F b = some (.tup (ks.map V.int))) (hz : ks.length ≤ sizeLine) : Rp K F (.ref b) (.tuple (ks.map .int)) := .tup h (rps_of_ints ks) (by rwa [List.length_map])
def putT (kvs : List (List Key × R)) (k : List Key) (r : R) : List (List Key × R) :=
  if (kvs.any fun kv => decide (kv.1 = k)) = true then kvs.map (fun kv => if kv.1 = k then (kv.1, r) else kv) else kvs ++ [(k, r)]
theorem pairT_any (k : List Key) : ∀ {vs : List (List Key × V)} {kvs : List (List Key × R)}, PairR K A F vs kvs → (vs.any fun kv => decide (kv.1 = k)) = (kvs.any fun kv => decide (kv.1 = k))
  | _, _, .nil => rfl
  | (k1, v) :: vs, (k2, r) :: kvs, .cons ⟨e, h⟩ t => by
    have e : k1 = k2 := e
    subst e
    simp only [List.any_cons, pairT_any k t]
theorem pairT_repl (k : List Key) {v : V} {r : R} (h : Rr K A F v r) : ∀ {vs : List (List Key × V)} {kvs : List (List Key × R)}, PairR K A F vs kvs → PairR K A F (vs.map fun kv => if kv.1 = k then (kv.1, v) else kv) (kvs.map fun kv => if kv.1 = k then (kv.1, r) else kv)
  | _, _, .nil => .nil
  | (k1, _) :: vs, (k2, _) :: kvs, .cons ⟨e, g⟩ t => by
    have e : k1 = k2 := e
    subst e
    simp only [List.map_cons]
    by_cases hk : k1 = k
    · rw [if_pos hk, if_pos hk]; exact .cons ⟨rfl, h⟩ (pairT_repl k h t)
    · rw [if_neg hk, if_neg hk]; exact .cons ⟨rfl, g⟩ (pairT_repl k h t)
theorem pairT_put (k : List Key) {v : V} {r : R} (h : Rr K A F v r) {vs : List (List Key × V)} {kvs : List (List Key × R)} (t : PairR K A F vs kvs) : PairR K A F (putK vs k v) (putT kvs k r) := by
  unfold putK putT
  rw [pairT_any k t]
  split
  · exact pairT_repl k h t
  · exact t.snoc ⟨rfl, h⟩
def frzRows : List (List Key × R) → Option (List (List Int × List Int))
  | [] => some []
  | (k, .dat d) :: r => (unkk k).bind fun ks => (tkOf d).bind fun vs => (frzRows r).bind fun rows => some ((ks, vs) :: rows)
  | _ => none
theorem rows_at : ∀ {vs : List (List Key × V)} {kvs : List (List Key × R)} {rows : List (List Int × List Int)}, PairR K A F vs kvs → frzRows kvs = some rows → Paired (RowT F) vs rows
  | _, _, _, .nil, h => by cases h; exact .nil
  | (k1, v) :: vs, (k2, r) :: kvs, rows, .cons ⟨e, g⟩ t, h => by
    cases r with
    | dat d =>
      obtain ⟨ks, h1, h⟩ := bind_inv h
      obtain ⟨us, h2, h⟩ := bind_inv h
      obtain ⟨rest, h3, h⟩ := bind_inv h
      cases h
      have e : k1 = k2 := e
      have g : Rr K A F v (.dat d) := g
      cases g with
      | dat g =>
        obtain ⟨_, b, rfl, hb, hz⟩ := tk_of h2 g
        exact .cons ⟨e.trans (unkk_eq h1), hz, b, rfl, hb⟩ (rows_at t h3)
    | own _ => cases h
    | scr _ => cases h
    | tup _ => cases h
    | exc _ => cases h
end
def gFrzT (i : Nat) : M D := fun S => match S.sl[i]? with
  | some (some (.dat d)) => some (d, S)
  | some (some (.own j)) => match S.os[j]? with
    | some (some (.tR kvs)) => (frzRows kvs).bind fun rows => some (tDict rows, ⟨S.sl.set i (some (.dat (tDict rows))), S.os.set j none⟩)
    | _ => none
  | _ => none
theorem rd_frzT {K : PySem.W.Frag} (i : Nat) : RdE K (tVar i) (gFrzT i) := by
  intro A F H S σ d S' Q k h post
  unfold gFrzT at h
  split at h
  · rename_i d' e
    cases h
    obtain ⟨v, ev, r⟩ := k.slot i _ e
    exact ⟨v, ev, post A F H v (List.prefix_refl _) (SameT.refl F) k r⟩
  · rename_i j e
    split at h
    · rename_i kvs e2
      obtain ⟨rows, e3, h⟩ := bind_inv h
      cases h
      obtain ⟨a, ha, ev⟩ := k.oslot i j e
      obtain ⟨a', ha', fa, vs, hv, pr⟩ := k.cell _ _ e2
      rw [ha] at ha'; cases ha'
      obtain ⟨sm, k'⟩ := k.sealO e2 ha hv
      have r : Rp K (upd F a (.dT vs)) (.ref a) (tDict rows) := .dcT upd_same (dcT_mono sm (rows_at pr e3))
      exact ⟨_, ev, post A _ H _ (List.prefix_refl _) sm (k'.datAt ev r) r⟩
    · cases h
  · cases h
/-! ### data read -/
def parT : List (D × D) → Option (List (List Int × List Int))
  | [] => some []
  | (k, v) :: r => (tkOf k).bind fun ks => (tkOf v).bind fun vs => (parT r).bind fun rows => some ((ks, vs) :: rows)
def dRows : D → Option (List (List Int × List Int))
  | .dict ((.str m, .none) :: r) => if m = "T" then parT r else none
  | _ => none
theorem tkOf_of (ks : List Int) : tkOf (.tuple (ks.map .int)) = some ks := allInts_of ks
theorem parT_of : ∀ rows : List (List Int × List Int), parT (rows.map fun p => (.tuple (p.1.map .int), .tuple (p.2.map .int))) = some rows
  | [] => rfl
  | p :: rows => by
    show (tkOf _).bind _ = _
    rw [tkOf_of]
    show (tkOf _).bind _ = _
    rw [tkOf_of]
    show (parT _).bind _ = _
    rw [parT_of rows]
    rfl
theorem dRows_of (rows : List (List Int × List Int)) : dRows (tDict rows) = some rows := by
  unfold dRows tDict
  simp only [if_true]
  exact parT_of rows
section
variable {K : PySem.W.Frag} {F : Hp}
theorem rp_rows {v : V} {d : D} {rows : List (List Int × List Int)} (h : dRows d = some rows) (r : Rp K F v d) : ∃ a vs, v = .ref a ∧ F a = some (.dT vs) ∧ Paired (RowT F) vs rows := by
  cases r with
  | dct _ _ h0 =>
    rcases h0 with rfl | rfl
    · simp [dRows] at h
    · simp [dRows] at h
  | dcT h1 h2 =>
    rw [dRows_of] at h
    cases h
    exact ⟨_, _, rfl, h1, h2⟩
  | _ => simp [dRows] at h
def getT (rows : List (List Int × List Int)) (k : List Int) : Option (List Int) := (rows.find? fun p => decide (p.1 = k)).map (·.2)
theorem rows_get (k : List Int) : ∀ {vs : List (List Key × V)} {rows : List (List Int × List Int)}, Paired (RowT F) vs rows → (getT rows k = none → valV vs (kk k) = none) ∧ ∀ us, getT rows k = some us → ∃ b, valV vs (kk k) = some (.ref b) ∧ F b = some (.tup (us.map V.int)) ∧ us.length ≤ sizeLine
  | _, _, .nil => ⟨fun _ => rfl, fun r e => by cases e⟩
  | (k1, v) :: vs, (k2, us) :: rows, .cons ⟨e, hz, b, e2, hb⟩ t => by
    have e : k1 = kk k2 := e
    have e2 : v = .ref b := e2
    subst e e2
    obtain ⟨i1, i2⟩ := rows_get k t
    by_cases hk : k2 = k
    · subst hk
      refine ⟨fun e => by simp [getT, List.find?_cons] at e, fun q e => ⟨b, by simp [valV, List.find?_cons], ?_⟩⟩
      simp [getT, List.find?_cons] at e
      subst e
      exact ⟨hb, hz⟩
    · have hk2 : ¬ kk k2 = kk k := fun z => hk (kk_inj z)
      have e1 : getT ((k2, us) :: rows) k = getT rows k := by simp [getT, List.find?_cons, hk]
      have e2 : valV ((kk k2, V.ref b) :: vs) (kk k) = valV vs (kk k) := by simp [valV, List.find?_cons, hk2]
      rw [e1, e2]
      exact ⟨i1, i2⟩
end
def dIxT (d k : D) : Option D := (dRows d).bind fun rows => (tkOf k).bind fun ks => (getT rows ks).bind fun us => some (.tuple (us.map .int))
def dInT (k d : D) : Option D := (tkOf k).bind fun ks => (dRows d).bind fun rows => some (.bool (getT rows ks).isSome)
def dNotInT (k d : D) : Option D := (tkOf k).bind fun ks => (dRows d).bind fun rows => some (.bool (!(getT rows ks).isSome))
/-- the dict first, the key behind -/
def gDK (f : D → D → Option D) (gd gk : M D) : M D := fun S => (gd S).bind fun p => (dRows p.1).bind fun _ => (gk p.2).bind fun q => (f p.1 q.1).bind fun z => some (z, q.2)
section
variable {X : Cx} {pos ap cp : Pos} {o e : Expr} {gd gk : M D} {n : Nat}
theorem some_isSome {α β : Type} {x : Option α} {y : Option β} (h1 : x = none → y = none) (h2 : ∀ a, x = some a → ∃ b, y = some b) : y.isSome = x.isSome := by
  cases x with
  | none => rw [h1 rfl]; rfl
  | some a => obtain ⟨b, h⟩ := h2 a rfl; rw [h]; rfl
theorem e_ixT (hr : Room n X.A) (ho : GE X o gd) (he : GE X e gk) (hs : NoSl e := by intro _ _; rfl) : GE X (.Subscript o e pos) (gDK dIxT gd gk) := by
  obtain ⟨td, pd, rd⟩ := ho.ex
  obtain ⟨tk, pk, rk⟩ := he.ex
  refine ⟨_, pe_dget (by have := hr.un; omega) pd pk hs, fun A F H S σ d S' Q k h post => ?_⟩
  obtain ⟨⟨x, S1⟩, h1, h⟩ := bind_inv h
  obtain ⟨rows, h2, h⟩ := bind_inv h
  obtain ⟨⟨y, S2⟩, h3, h⟩ := bind_inv h
  obtain ⟨z, h4, h⟩ := bind_inv h
  cases h
  have h2 : dRows x = some rows := h2
  have h4 : dIxT x y = some d := h4
  unfold dIxT at h4
  rw [h2] at h4
  obtain ⟨ks, h5, h4⟩ := bind_inv (show (tkOf y).bind _ = _ from h4)
  obtain ⟨us, h6, h4⟩ := bind_inv h4
  cases h4
  refine rd A F H S σ x S1 _ k h1 fun A1 F1 H1 v p1 s1 k1 r1 => rk A1 F1 H1 S1 σ y S2 _ k1 h3 fun A2 F2 H2 u p2 s2 k2 r2 => ?_
  obtain ⟨a, vs, rfl, g1, g2⟩ := rp_rows h2 (r1.mono s2 _ _)
  obtain ⟨_, b, rfl, gb, _⟩ := tk_of h5 r2
  obtain ⟨_, q2⟩ := rows_get ks g2
  obtain ⟨c, e1, e2, e3⟩ := q2 us h6
  refine ⟨a, .ref c, rfl, ?_, post A2 F2 H2 _ (p1.trans p2) (s1.trans s2) k2 (rp_of_tk e2 e3)⟩
  rw [← e1]
  exact .t (k2.sub.same _ _ g1) (by rw [kk_V]; exact k2.sub.same _ _ gb)
theorem rd_inT {K : PySem.W.Frag} {td tk : TE} (neg : Bool) (rd : RdE K td gd) (rk : RdE K tk gk) : RdE K (if neg = true then tDNotIn tk td else tDIn tk td) (gBin (if neg = true then dNotInT else dInT) gk gd) := by
  intro A F H S σ d S' Q k h post
  obtain ⟨⟨y, S1⟩, h1, h⟩ := bind_inv h
  obtain ⟨⟨x, S2⟩, h3, h⟩ := bind_inv h
  obtain ⟨z, h4, h⟩ := bind_inv h
  cases h
  have key : ∃ ks rows, tkOf y = some ks ∧ dRows x = some rows ∧ d = .bool (if neg = true then !(getT rows ks).isSome else (getT rows ks).isSome) := by
    cases neg with
    | true =>
      have h4 : dNotInT y x = some d := h4
      obtain ⟨ks, h5, h4⟩ := bind_inv h4
      obtain ⟨rows, h6, h4⟩ := bind_inv h4
      cases h4
      exact ⟨ks, rows, h5, h6, rfl⟩
    | false =>
      have h4 : dInT y x = some d := h4
      obtain ⟨ks, h5, h4⟩ := bind_inv h4
      obtain ⟨rows, h6, h4⟩ := bind_inv h4
      cases h4
      exact ⟨ks, rows, h5, h6, rfl⟩
  obtain ⟨ks, rows, h5, h6, rfl⟩ := key
  have main : tk σ H fun y H1 => td σ H1 fun x H2 => ∃ a o, x = .ref a ∧ DGet H2 a y o ∧ Q (.bl (if neg = true then !o.isSome else o.isSome)) H2 := by
    refine rk A F H S σ y S1 _ k h1 fun A1 F1 H1 v p1 s1 k1 r1 => rd A1 F1 H1 S1 σ x S2 _ k1 h3 fun A2 F2 H2 u p2 s2 k2 r2 => ?_
    obtain ⟨a, vs, rfl, g1, g2⟩ := rp_rows h6 r2
    obtain ⟨_, b, rfl, gb, _⟩ := tk_of h5 (r1.mono s2 _ _)
    obtain ⟨q1, q2⟩ := rows_get ks g2
    refine ⟨a, valV vs (kk ks), rfl, .t (k2.sub.same _ _ g1) (by rw [kk_V]; exact k2.sub.same _ _ gb), ?_⟩
    rw [some_isSome q1 fun us e => let ⟨c, e1, _⟩ := q2 us e; ⟨_, e1⟩]
    exact post A2 F2 H2 _ (p1.trans p2) (s1.trans s2) k2 (.bl _)
  cases neg with
  | true => exact main
  | false => exact main
theorem t_inT (hr : Room n X.A) (he : GE X e gk) (ho : GE X o gd) (hm : behindInMarks .In o = false := by rfl) : GT X (.Compare e [.In] [o] pos) (gB (gBin dInT gk gd)) := by
  obtain ⟨td, pd, rd⟩ := ho.ex
  obtain ⟨tk, pk, rk⟩ := he.ex
  exact ⟨_, pt_cmp (pc_din (by have := hr.un; omega) pk pd) hm, rd_test (rd_inT false rd rk)⟩
theorem t_notInT (hr : Room n X.A) (he : GE X e gk) (ho : GE X o gd) (hm : behindInMarks .NotIn o = false := by rfl) : GT X (.Compare e [.NotIn] [o] pos) (gB (gBin dNotInT gk gd)) := by
  obtain ⟨td, pd, rd⟩ := ho.ex
  obtain ⟨tk, pk, rk⟩ := he.ex
  exact ⟨_, pt_cmp (pc_dnotin (by have := hr.un; omega) pk pd) hm, rd_test (rd_inT true rd rk)⟩
theorem e_frzT (i : Nat) {x : Str} (hN : X.N[i]? = some x := by rfl) (hv : Vis X.env.scope x := by first | exact Or.inl rfl | exact Or.inr (Or.inl rfl) | exact Or.inr (Or.inr rfl)) (hd : (x == ("__debug__" : Str)) = false := by decide)
    (hcd : (x == ("__classdict__" : Str)) = false := by decide) : GE X (.Name x pos) (gFrzT i) := ⟨_, pe_var hN hv hd hcd, rd_frzT i⟩
end
/-! ### an own one, written -/
def qDictT0 (i : Nat) : Sx → Option Out := fun S => some (.nx ⟨S.sl.set i (some (.own S.os.length)), S.os ++ [some (.tR [])]⟩)
def sIxT (i : Nat) (gk : M D) : D → Sx → Option Sx := fun d S => match S.sl[i]? with
  | some (some (.own j)) => (gk S).bind fun q => (tkOf q.1).bind fun ks => match q.2.os[j]? with
    | some (some (.tR kvs)) => if kvs.length < sizeLine then some ⟨q.2.sl, q.2.os.set j (some (.tR (putT kvs (kk ks) (.dat d))))⟩ else none
    | _ => none
  | _ => none
def rSetDT : TSet := fun o i v H Q => ∃ (a b : Addr) (kvs : List (List Key × V)) (k : List Key), o = .ref a ∧ i = .ref b ∧ H a = some (.dT kvs) ∧ H b = some (.tup (k.map kV)) ∧ kvs.length < sizeLine ∧ Q (upd H a (.dT (putK kvs k v)))
theorem set_dT {X : Cx} (hu : X.A.units + 1 < cLine) : PSet X rSetDT := by
  intro pins s σ H o i v ov iv u Q I ro ri rv h
  obtain ⟨a, b, kvs, k, rfl, rfl, ha, hb, hz, q⟩ := h
  obtain rfl : ov = Value.ref a := ro
  exact d_setItem hu I (.t ha hb hz) ri rv fun s' I' => ⟨_, I', q⟩
section
variable {X : Cx} {P : Hp → Prop} {pos pd p p2 py : Pos} {y x : Str} {b : Expr} {gk : M D} {tgt : List Nat} {n : Nat}
theorem s_dictT0 {pos' : Pos} (i : Nat) (hN : X.N.Nodup) (hx : Loc X.env.scope x := by first | exact Or.inl rfl | exact Or.inr rfl) (hi : X.N[i]? = some x := by rfl) (hs : swapsWith (.Dict [] [] pd) (some (.Name x pos')) pos.line X.env = pure false := by rfl)
    (hf : X.fn x = true ∨ X.env.scope.names.lookup x = some .local := by first | exact .inl rfl | exact .inr rfl | assumption) : GS X P (.Assign [.Name x pos'] (.Dict [] [] pd) pos) (qDictT0 i) := by
  refine ⟨_, ps_set hN hi hx pe_dnewT hs hf, fun B A0 A F H S σ o E hP s p k e post => ?_⟩
  cases e
  intro q hq
  have k2 := k.cellNew (o := .dT []) (c := .tR []) hq trivial ⟨[], upd_same, .nil⟩
  exact post _ F _ _ s (p.trans (List.prefix_append _ _)) (k2.setOwn (j := S.os.length) (by rw [k.alen]; simp))
theorem g_ixT (hr : Room n X.A) (i : Nat) (hb : GE X b gk) (hN : X.N[i]? = some y := by rfl) (hv : Vis X.env.scope y := by first | exact Or.inl rfl | exact Or.inr (Or.inl rfl) | exact Or.inr (Or.inr rfl)) (hdy : (y == ("__debug__" : Str)) = false := by decide) (hcd : (y == ("__classdict__" : Str)) = false := by decide)
    (ha : ∀ v, assign (.Subscript (.Name y py) b pos) X.env v = (do
      let ov ← holding [v] (eval (.Name y py) X.env)
      let iv ← holding [v, ov] (eval b X.env)
      standAt pos
      holding [v, ov, iv] (setItem ov iv v)
      release [v, ov, iv] []) := by intro _; rfl) : GG X tgt (.Subscript (.Name y py) b pos) (sIxT i gk) := by
  obtain ⟨u, pb, rb⟩ := hb.ex
  refine ⟨_, pg_sub (pe_var hN hv hdy hcd) pb (set_dT (by have := hr.un; omega)) ha, fun A F H S σ v d S' Q k rv h post => ?_⟩
  unfold sIxT at h
  split at h
  case h_2 => cases h
  rename_i j ej
  obtain ⟨⟨y1, S2⟩, e2, h⟩ := bind_inv h
  obtain ⟨ks, e3, h⟩ := bind_inv h
  simp only at h
  split at h
  case h_2 => cases h
  rename_i kvs ec
  split at h
  case isFalse => cases h
  rename_i hz
  cases h
  obtain ⟨a, ha', ev⟩ := k.oslot i j ej
  refine ⟨_, ev, rb A F H S σ _ S2 _ k e2 fun A2 F2 H2 w p2 s2 k2 r2 => ?_⟩
  obtain ⟨_, c, rfl, gc, _⟩ := tk_of e3 r2
  obtain ⟨a', ha2, fa, vs, hv', pr⟩ := k2.cell _ _ ec
  rw [pre_at p2 ha'] at ha2; cases ha2
  refine ⟨a, c, vs, kk ks, rfl, rfl, hv', by rw [kk_V]; exact k2.sub.same _ _ gc, by rw [pr.length]; exact hz, ?_⟩
  exact post A2 F2 _ _ p2 s2 (k2.cellSet ec (pre_at p2 ha') trivial ⟨_, upd_same, pairT_put (kk ks) (.dat (rv.mono s2 _ _)) pr⟩) fun _ _ => rfl
end
/-! ### dict(pairs), held as data: what it holds is not told, but for an empty one -/
section
variable {X : Cx} {pos p : Pos} {e : Expr} {gs : M (List D)}
end
end Fu

set_option maxHeartbeats 4000000
/-! a stretch of an own list stored: `name[a:b] = [..]` -/
namespace Fu
open PySem PySem.Spec PyProof.Rows L2
variable [TabsC]
def gSlc (to : TE) (tl th : TO) : TG := fun v σ H Q => to σ H fun o H1 => tl σ H1 fun l H2 => th σ H2 fun u H3 => ∃ (a b : Addr) (xs ys : List V) (i j : Int), o = .ref a ∧ v = .ref b ∧ H3 a = some (.lst xs) ∧ H3 b = some (.lst ys) ∧ a ≠ b ∧ l = some i ∧ u = some j ∧ 0 ≤ i ∧ i ≤ j ∧ j ≤ xs.length ∧ xs.length + ys.length ≤ sizeLine ∧ Q σ (upd H3 a (.lst (xs.take i.toNat ++ ys ++ xs.drop j.toNat)))
theorem pg_slice {X : Cx} {o : Expr} {lo hi : Option Expr} {to : TE} {tl th : TO} {pos p2 : Pos} (ho : PE X o to) (hl : PO X lo tl) (hh : PO X hi th)
    (ha : ∀ v, assign (.Subscript o (.Slice lo hi none p2) pos) X.env v = (do
      let ov ← holding [v] (eval o X.env)
      let iv ← holding [v, ov] (eval (.Slice lo hi none p2) X.env)
      standAt pos
      holding [v, ov, iv] (setItem ov iv v)
      release [iv, v, ov] []) := by intro _; rfl) : PG X (.Subscript o (.Slice lo hi none p2) pos) (gSlc to tl th) := by
  refine ⟨fun pins s σ H v u Q I r h => ?_⟩
  rw [ha]
  refine wpAny_bind (wpAny_holding (thn (ho.run pins s σ H _ I h) fun ov s1 ⟨x, H1, I1, r1, q1⟩ => ?_))
  refine wpAny_bind (wpAny_holding (wpAny_Slice (thn (hl.run pins s1 σ H1 _ I1 q1) fun vl s2 ⟨l, H2, I2, pl, q2⟩ => thn (hh.run pins s2 σ H2 _ I2 q2) fun vu s3 ⟨w, H3, I3, pu, q3⟩ => ?_)))
  rw [evalPart_none]
  refine wpAny_pure ?_
  have I4 : Inv X pins σ H3 { s3 with heap := s3.heap.push { cls := .type "slice", data := .fields #[vl, vu, .none] } } := I3.kept (t' := s3.toks) fun b ob q => Heap.get?_push_of_some _ q
  obtain ⟨a, b, xs, ys, i, j, rfl, rfl, g1, g2, g3, rfl, rfl, g4, g5, g6, g7, q4⟩ := q3
  have r1 : ov = Value.ref a := r1
  have r : u = Value.ref b := r
  subst r1 r
  cases pl
  cases pu
  refine wpAny_bind (wpAny_standAt (wpAny_bind (wpAny_holding (set_slice I4 g1 g2 g3 (Heap.IsSliceOf.new ..) ⟨_, rfl⟩ ⟨_, rfl⟩ g4 g5 g6 g7 fun s5 I5 => ?_))))
  exact wpAny_release ⟨σ, _, I5, q4⟩
def sSlO (i : Nat) (gl gh : M (Option Int)) : D → Sx → Option Sx := fun d S => match d with
  | .list ds => (ownOf S i).bind fun o => (gl S).bind fun p => (gh p.2).bind fun q => (cellOf q.2 o.1).bind fun cs => match p.1, q.1 with
    | some a, some b => if 0 ≤ a ∧ a ≤ b ∧ b ≤ cs.length ∧ cs.length + ds.length ≤ sizeLine then some (setCell q.2 o.1 (cs.take a.toNat ++ ds ++ cs.drop b.toNat)) else none
    | _, _ => none
  | _ => none
section
variable {X : Cx} {pos p2 py : Pos} {y : Str} {lo hi : Option Expr} {gl gh : M (Option Int)} {tgt : List Nat}
theorem rps_take' {K : PySem.W.Frag} {F : Hp} : ∀ {vs : List V} {ds : List D} (k : Nat), Rps K F vs ds → Rps K F (vs.take k) (ds.take k)
  | _, _, 0, _ => .nil
  | _, _, _ + 1, .nil => .nil
  | _, _, k + 1, .cons h t => .cons h (rps_take' k t)
theorem rps_drop' {K : PySem.W.Frag} {F : Hp} : ∀ {vs : List V} {ds : List D} (k : Nat), Rps K F vs ds → Rps K F (vs.drop k) (ds.drop k)
  | _, _, 0, h => h
  | _, _, _ + 1, .nil => .nil
  | _, _, k + 1, .cons _ t => rps_drop' k t
theorem g_slO (i : Nat) (hl : GO X lo gl) (hh : GO X hi gh) (hN : X.N[i]? = some y := by rfl) (hv : Vis X.env.scope y := by first | exact Or.inl rfl | exact Or.inr (Or.inl rfl) | exact Or.inr (Or.inr rfl)) (hdy : (y == ("__debug__" : Str)) = false := by decide) (hcd : (y == ("__classdict__" : Str)) = false := by decide)
    (ha : ∀ v, assign (.Subscript (.Name y py) (.Slice lo hi none p2) pos) X.env v = (do
      let ov ← holding [v] (eval (.Name y py) X.env)
      let iv ← holding [v, ov] (eval (.Slice lo hi none p2) X.env)
      standAt pos
      holding [v, ov, iv] (setItem ov iv v)
      release [iv, v, ov] []) := by intro _; rfl) : GG X tgt (.Subscript (.Name y py) (.Slice lo hi none p2) pos) (sSlO i gl gh) := by
  obtain ⟨_, pl, rl⟩ := hl.ex
  obtain ⟨_, ph, rh⟩ := hh.ex
  refine ⟨_, pg_slice (pe_var hN hv hdy hcd) pl ph ha, fun A F H S σ v d S' Q k rv h post => ?_⟩
  unfold sSlO at h
  split at h
  case h_2 => cases h
  rename_i ds
  obtain ⟨⟨j, cs0⟩, e0, h⟩ := bind_inv h
  obtain ⟨⟨l, S1⟩, e1, h⟩ := bind_inv h
  obtain ⟨⟨u, S2⟩, e2, h⟩ := bind_inv h
  obtain ⟨cs, e3, h⟩ := bind_inv h
  have e2 : gh S1 = some (u, S2) := e2
  have e3 : cellOf S2 j = some cs := e3
  cases l with
  | none => cases h
  | some a =>
  cases u with
  | none => cases h
  | some b =>
  simp only at h
  split at h
  case isFalse => cases h
  rename_i hz
  obtain ⟨z1, z2, z3, z4⟩ := hz
  cases h
  obtain ⟨ad, vs0, _, _, ha', ev, _, hv0, _, _⟩ := own_at k e0
  refine ⟨_, ev, rl A F H S σ _ S1 _ k e1 fun A1 F1 H1 p1 s1 k1 => rh A1 F1 H1 S1 σ _ S2 _ k1 e2 fun A2 F2 H2 p2 s2 k2 => ?_⟩
  obtain ⟨vs, ec, fa, hv', rr, hzz⟩ := cell_at k2 e3 (prefix_at (p1.trans p2) ha')
  obtain ⟨c, us, rfl, g1, g2, g3⟩ := rp_list_inv ((rv.mono s1 _ _).mono s2 _ _)
  refine ⟨ad, c, vs, us, a, b, rfl, rfl, hv', k2.sub.same _ _ g1, fun z => ?_, rfl, rfl, z1, z2, by rw [rr.length]; exact z3, by rw [rr.length, g2.length]; exact z4, ?_⟩
  · subst z; rw [fa] at g1; cases g1
  · have rn := ((rps_take' a.toNat rr).append g2).append (rps_drop' b.toNat rr)
    refine post A2 F2 _ _ (p1.trans p2) (s1.trans s2) (k2.cellSet ec (prefix_at (p1.trans p2) ha') trivial ⟨_, upd_same, rn, ?_⟩) fun _ _ => rfl
    simp only [List.length_append, List.length_take, List.length_drop]
    omega
end
/-! ### a test that is a choice of tests -/
def tIfT (c a b : TT) : TT := fun σ H Q => c σ H fun x H1 => if x = true then a σ H1 Q else b σ H1 Q
def gIfT (t a b : M Bool) : M Bool := fun S => (t S).bind fun p => if p.1 = true then a p.2 else b p.2
section
variable {X : Cx} {pos : Pos} {c a b : Expr} {g ga gb : M Bool} {tc ta tb : TT}
theorem pt_ifT (hc : PT X c tc) (ha : PT X a ta) (hb : PT X b tb) : PT X (.IfExp c a b pos) (tIfT tc ta tb) := by
  refine ⟨fun pins s σ H Q I h => ?_⟩
  refine isTrue_IfExp (thn (hc.run pins s σ H _ I h) fun d s1 ⟨H1, I1, q1⟩ => ?_)
  cases d with
  | true => exact ha.run pins s1 σ H1 Q I1 q1
  | false => exact hb.run pins s1 σ H1 Q I1 q1
theorem t_if (hc : GT X c g) (ha : GT X a ga) (hb : GT X b gb) : GT X (.IfExp c a b pos) (gIfT g ga gb) := by
  obtain ⟨t, pc, rc⟩ := hc.ex
  obtain ⟨_, pa, ra⟩ := ha.ex
  obtain ⟨_, pb, rb⟩ := hb.ex
  refine ⟨_, pt_ifT pc pa pb, fun A F H S σ d S' Q k e post => ?_⟩
  obtain ⟨⟨x, S1⟩, h1, e⟩ := bind_inv e
  refine rc A F H S σ x S1 _ k h1 fun A1 F1 H1 p1 s1 k1 => ?_
  cases x with
  | true => exact ra A1 F1 H1 S1 σ d S' Q k1 e fun A2 F2 H2 p2 s2 k2 => post A2 F2 H2 (p1.trans p2) (s1.trans s2) k2
  | false => exact rb A1 F1 H1 S1 σ d S' Q k1 e fun A2 F2 H2 p2 s2 k2 => post A2 F2 H2 (p1.trans p2) (s1.trans s2) k2
end
end Fu

set_option maxHeartbeats 4000000
namespace Fu
open PySem
variable [TabsC]

/-! ### data: shaped, equal -/
theorem shaped_iff {d : D} : SeqAt.shaped d = true ↔ d.canLay0 = true ∧ d.depth ≤ 64 := by
  unfold SeqAt.shaped
  rw [Bool.and_eq_true, decide_eq_true_eq]
@[simp] theorem shaped_int (i : Int) : SeqAt.shaped (.int i) = true := by simp [shaped_iff, PyData.canLay0, PyData.depth]
@[simp] theorem shaped_bool (b : Bool) : SeqAt.shaped (.bool b) = true := by simp [shaped_iff, PyData.canLay0, PyData.depth]
@[simp] theorem shaped_none : SeqAt.shaped .none = true := by simp [shaped_iff, PyData.canLay0, PyData.depth]
@[simp] theorem dEq_int (a b : Int) : dEq (.int a) (.int b) = some (.bool (decide (a = b))) := by
  simp [dEq, PyData.eqv, Bool.beq_eq_decide_eq]
@[simp] theorem dNe_int (a b : Int) : dNe (.int a) (.int b) = some (.bool (!decide (a = b))) := by
  simp [dNe, PyData.eqv, Bool.beq_eq_decide_eq]
theorem dNe_self {d : D} (h : SeqAt.shaped d = true) : dNe d d = some (.bool false) := by
  unfold dNe
  rw [if_pos ⟨h, h⟩, SeqAt.eqv_refl _ (shaped_iff.mp h).1]; rfl
/-- lists (tuples) of things of one shape, their depth at most n -/
def Fine (n : Nat) (d : D) : Prop := d.canLay0 = true ∧ d.depth ≤ n
theorem Fine.mono {m n : Nat} {d : D} (h : Fine m d) (l : m ≤ n) : Fine n d := ⟨h.1, Nat.le_trans h.2 l⟩
theorem Fine.shaped {n : Nat} {d : D} (h : Fine n d) (l : n ≤ 64 := by decide) : SeqAt.shaped d = true := shaped_iff.mpr ⟨h.1, Nat.le_trans h.2 l⟩
theorem fine_all {n : Nat} : ∀ {ds : List D}, (∀ d ∈ ds, Fine n d) → PyData.canLayAll0 ds = true ∧ PyData.depthAll ds ≤ n
  | [], _ => ⟨rfl, Nat.zero_le _⟩
  | d :: ds, h => by
    obtain ⟨a, b⟩ := fine_all fun e he => h e (List.mem_cons_of_mem _ he)
    have c := h d List.mem_cons_self
    exact ⟨by simp [PyData.canLayAll0, a, c.1], by simp only [PyData.depthAll]; exact Nat.max_le.mpr ⟨c.2, b⟩⟩
theorem fine_list {n : Nat} {ds : List D} (h : ∀ d ∈ ds, Fine n d) : Fine (n + 1) (.list ds) := by
  obtain ⟨a, b⟩ := fine_all h
  exact ⟨by simpa [PyData.canLay0] using a, by simp only [PyData.depth]; omega⟩
theorem fine_tup {n : Nat} {ds : List D} (h : ∀ d ∈ ds, Fine n d) : Fine (n + 1) (.tuple ds) := by
  obtain ⟨a, b⟩ := fine_all h
  exact ⟨by simpa [PyData.canLay0] using a, by simp only [PyData.depth]; omega⟩
theorem fine_int (i : Int) : Fine 0 (.int i) := ⟨by simp [PyData.canLay0], by simp [PyData.depth]⟩
theorem fine_str {x : Str} (h : PyData.strOk x = true) : Fine 0 (.str x) := ⟨by simpa [PyData.canLay0] using h, by simp [PyData.depth]⟩
/-- one sign -/
def ch (c : Nat) : D := .str ⟨#[c]⟩
theorem fine_ch {c : Nat} (h : c < 0x110000) : Fine 0 (ch c) := fine_str (by simp [PyData.strOk, h])
theorem ch_inj {a b : Nat} (h : ch a = ch b) : a = b := by
  unfold ch at h
  injection h with h
  injection h with h
  have := congrArg (fun z : Array Nat => z.toList) h
  simpa using this
theorem dEq_ch {a b : Nat} (ha : a < 0x110000) (hb : b < 0x110000) : dEq (ch a) (ch b) = some (.bool (decide (a = b))) := by
  unfold dEq
  rw [if_pos ⟨(fine_ch ha).shaped, (fine_ch hb).shaped⟩]
  congr 2
  unfold ch
  simp only [PyData.eqv]
  by_cases h : a = b
  · subst h; simp
  · rw [decide_eq_false h, beq_eq_false_iff_ne]
    intro e
    exact h (ch_inj (congrArg PyData.str e))
theorem dNe_ch {a b : Nat} (ha : a < 0x110000) (hb : b < 0x110000) : dNe (ch a) (ch b) = some (.bool (!decide (a = b))) := by
  have h := dEq_ch ha hb
  unfold dEq at h
  unfold dNe
  rw [if_pos ⟨(fine_ch ha).shaped, (fine_ch hb).shaped⟩] at h ⊢
  injection h with h
  injection h with h
  rw [h]

/-! ### comprehensions that change nothing else -/
theorem wipeS_in' {sl : List (Option R)} {n : Nat} : ∀ {ws : List Nat}, n ∈ ws → (wipeS sl ws)[n]? = if n < sl.length then some none else none
  | v :: ws, h => by
    unfold wipeS
    by_cases hv : v = n
    · subst hv
      by_cases hl : v < sl.length
      · rw [List.getElem?_set_self (by rw [wipeS_len]; exact hl), if_pos hl]
      · rw [List.getElem?_eq_none (by rw [List.length_set, wipeS_len]; omega), if_neg hl]
    · rw [List.getElem?_set_ne hv]
      exact wipeS_in' ((List.mem_cons.mp h).resolve_left fun z => hv z.symm)
theorem backS_same {old new : List (Option R)} {vs : List Nat} (h : wipeS new vs = wipeS old vs) : backS old new vs = old := by
  have hl : old.length = new.length := by
    have := congrArg List.length h
    rw [wipeS_len, wipeS_len] at this
    exact this.symm
  apply List.ext_getElem?
  intro n
  rw [backS_in hl]
  by_cases hn : n ∈ vs
  · rw [if_pos hn]
  · rw [if_neg hn]
    have := congrArg (fun l => l[n]?) h
    have h2 : (wipeS new vs)[n]? = (wipeS old vs)[n]? := this
    rwa [wipeS_out hn, wipeS_out hn] at h2
/-! ### loops -/
theorem loop_inv {gg : D → Sx → Option Sx} {body : Sx → Option Out} (I : Nat → Sx → Prop) : ∀ (ds : List D) (n : Nat) (S : Sx), I n S → (∀ i d S, ds[i]? = some d → I (n + i) S → ∃ S1 S2, gg d S = some S1 ∧ body S1 = some (.nx S2) ∧ I (n + i + 1) S2) →
    ∃ S', gLoop gg body ds S = some (.nx S') ∧ I (n + ds.length) S'
  | [], n, S, h0, _ => ⟨S, rfl, h0⟩
  | d :: ds, n, S, h0, hs => by
    obtain ⟨S1, S2, h1, h2, h3⟩ := hs 0 d S rfl h0
    obtain ⟨S', h4, h5⟩ := loop_inv I ds (n + 1) S2 h3 fun i e T he hI => by
      have := hs (i + 1) e T (by simpa using he) (by rwa [show n + (i + 1) = n + 1 + i by omega])
      rwa [show n + (i + 1) + 1 = n + 1 + i + 1 by omega] at this
    refine ⟨S', ?_, by rwa [show n + (d :: ds).length = n + 1 + ds.length by simp; omega]⟩
    rw [gLoop]
    simp only [h1, h2, Option.bind_some]
    exact h4
theorem rng_at {lo : Int} {n i : Nat} {d : D} (h : (rng lo n)[i]? = some d) : i < n ∧ d = .int (lo + i) := by
  unfold rng at h
  rw [List.getElem?_map] at h
  obtain ⟨j, hj, rfl⟩ := Option.map_eq_some_iff.mp h
  obtain ⟨h1, h2⟩ := List.getElem?_eq_some_iff.mp hj
  simp at h1 h2
  subst h2
  exact ⟨h1, rfl⟩
theorem atI_ok {α : Type} {xs : List α} {i : Int} (h0 : 0 ≤ i) (h1 : i < xs.length) : L2.atI xs i = xs[i.toNat]? := by
  unfold L2.atI L2.ixN
  rw [if_pos h0, if_pos h1]; rfl
theorem line_eq : sizeLine = 16777216 := sizeLine_eq
end Fu

set_option maxHeartbeats 4000000
namespace Fu
open PySem
variable [TabsC]

/-! ### plain data: no truth value inside; there python's equality is equality -/
mutual
def plain : D → Bool
  | .none | .int _ | .str _ => true
  | .bool _ | .dict _ => false
  | .list xs | .tuple xs => plains xs
def plains : List D → Bool
  | [] => true
  | x :: xs => plain x && plains xs
end
mutual
theorem eqv_plain : ∀ d e : D, plain d = true → plain e = true → (PyData.eqv d e = true ↔ d = e)
  | .none, e, _, h => by cases e <;> simp [PyData.eqv, plain] at h ⊢
  | .int i, e, _, h => by cases e <;> simp [PyData.eqv, plain] at h ⊢
  | .str i, e, _, h => by cases e <;> simp [PyData.eqv, plain] at h ⊢
  | .bool b, _, h, _ => by simp [plain] at h
  | .dict b, _, h, _ => by simp [plain] at h
  | .list xs, e, h1, h2 => by
    cases e with
    | list ys =>
      simp only [plain] at h1 h2
      rw [PyData.eqv, eqvs_plain xs ys h1 h2]
      exact ⟨fun h => by rw [h], fun h => by injection h⟩
    | _ => simp [PyData.eqv, plain] at h2 ⊢
  | .tuple xs, e, h1, h2 => by
    cases e with
    | tuple ys =>
      simp only [plain] at h1 h2
      rw [PyData.eqv, eqvs_plain xs ys h1 h2]
      exact ⟨fun h => by rw [h], fun h => by injection h⟩
    | _ => simp [PyData.eqv, plain] at h2 ⊢
theorem eqvs_plain : ∀ xs ys : List D, plains xs = true → plains ys = true → (PyData.eqvAll xs ys = true ↔ xs = ys)
  | [], ys, _, _ => by cases ys <;> simp [PyData.eqvAll]
  | x :: xs, [], _, _ => by simp [PyData.eqvAll]
  | x :: xs, y :: ys, h1, h2 => by
    simp only [plains, Bool.and_eq_true] at h1 h2
    rw [PyData.eqvAll, Bool.and_eq_true, eqv_plain x y h1.1 h2.1, eqvs_plain xs ys h1.2 h2.2]
    exact ⟨fun h => by rw [h.1, h.2], fun h => by injection h; exact ⟨by assumption, by assumption⟩⟩
end
theorem plains_all {xs : List D} : plains xs = true ↔ ∀ d ∈ xs, plain d = true := by
  induction xs with
  | nil => simp [plains]
  | cons x xs ih => simp [plains, ih]
/-- good data: plain, of shape, not deep -/
structure Good (n : Nat) (d : D) : Prop where
  fine : Fine n d
  plain : plain d = true
theorem Good.shaped {n : Nat} {d : D} (h : Good n d) (l : n ≤ 64 := by decide) : SeqAt.shaped d = true := h.fine.shaped l
theorem Good.mono {m n : Nat} {d : D} (h : Good m d) (l : m ≤ n) : Good n d := ⟨h.fine.mono l, h.plain⟩
theorem good_int (i : Int) : Good 0 (.int i) := ⟨fine_int i, rfl⟩
theorem good_list {n : Nat} {ds : List D} (h : ∀ d ∈ ds, Good n d) : Good (n + 1) (.list ds) := ⟨fine_list fun d hd => (h d hd).fine, plains_all.mpr fun d hd => (h d hd).plain⟩
theorem good_tup {n : Nat} {ds : List D} (h : ∀ d ∈ ds, Good n d) : Good (n + 1) (.tuple ds) := ⟨fine_tup fun d hd => (h d hd).fine, plains_all.mpr fun d hd => (h d hd).plain⟩
open Classical in
theorem dEq_good {m n : Nat} {d e : D} (h : Good m d) (k : Good n e) (l1 : m ≤ 64 := by decide) (l2 : n ≤ 64 := by decide) : dEq d e = some (.bool (decide (d = e))) := by
  unfold dEq
  rw [if_pos ⟨h.shaped l1, k.shaped l2⟩]
  by_cases x : d = e
  · rw [(eqv_plain d e h.plain k.plain).mpr x, decide_eq_true x]
  · rw [decide_eq_false x, Bool.eq_false_iff.mpr fun z => x ((eqv_plain d e h.plain k.plain).mp z)]
open Classical in
theorem dNe_good {m n : Nat} {d e : D} (h : Good m d) (k : Good n e) (l1 : m ≤ 64 := by decide) (l2 : n ≤ 64 := by decide) : dNe d e = some (.bool (!decide (d = e))) := by
  unfold dNe
  rw [if_pos ⟨h.shaped l1, k.shaped l2⟩]
  by_cases x : d = e
  · rw [(eqv_plain d e h.plain k.plain).mpr x, decide_eq_true x]
  · rw [decide_eq_false x, Bool.eq_false_iff.mpr fun z => x ((eqv_plain d e h.plain k.plain).mp z)]

/-! ### what a run answers, forwards -/
def Ev {α : Type} (x : Option (α × Sx)) (Q : α → Sx → Prop) : Prop := ∃ a S, x = some (a, S) ∧ Q a S
def Es (x : Option Sx) (Q : Sx → Prop) : Prop := ∃ S, x = some S ∧ Q S
def Eo (x : Option Out) (Q : Out → Prop) : Prop := ∃ o, x = some o ∧ Q o
def Ed {α : Type} (x : Option α) (Q : α → Prop) : Prop := ∃ d, x = some d ∧ Q d
theorem Ev.mono {α : Type} {x : Option (α × Sx)} {P Q : α → Sx → Prop} (h : Ev x P) (f : ∀ a S, P a S → Q a S) : Ev x Q := let ⟨a, S, e, p⟩ := h; ⟨a, S, e, f a S p⟩
theorem Eo.mono {x : Option Out} {P Q : Out → Prop} (h : Eo x P) (f : ∀ a, P a → Q a) : Eo x Q := let ⟨a, e, p⟩ := h; ⟨a, e, f a p⟩
theorem Ed.of {α : Type} {x : Option α} {d : α} {Q : α → Prop} (e : x = some d) (h : Q d) : Ed x Q := ⟨d, e, h⟩
theorem Ev.of {α : Type} {x : Option (α × Sx)} {d : α} {S : Sx} {Q : α → Sx → Prop} (e : x = some (d, S)) (h : Q d S) : Ev x Q := ⟨d, S, e, h⟩
theorem Ev.eq {α : Type} {x : Option (α × Sx)} {d : α} {S : Sx} (h : Ev x fun a T => a = d ∧ T = S) : x = some (d, S) := by
  obtain ⟨a, T, e, rfl, rfl⟩ := h; exact e
theorem Es.eq {x : Option Sx} {S : Sx} (h : Es x fun T => T = S) : x = some S := by
  obtain ⟨T, e, rfl⟩ := h; exact e
section
variable {α : Type} {S : Sx} {Q : D → Sx → Prop} {P : Bool → Sx → Prop} {L : List D → Sx → Prop} {O : Option Int → Sx → Prop} {Z : Out → Prop} {W : Sx → Prop}
theorem ev_c {d : D} (h : Q d S) : Ev (gC d S) Q := ⟨d, S, rfl, h⟩
theorem ev_var {sl : List (Option R)} {os : List (Option Cell)} {i : Nat} (h : ∃ d, sl[i]? = some (some (.dat d)) ∧ Q d ⟨sl, os⟩) : Ev (gVar i ⟨sl, os⟩) Q := by
  obtain ⟨d, e, h⟩ := h
  exact ⟨d, _, by unfold gVar; simp only [e], h⟩
theorem ev_bin {f : D → D → Option D} {ga gb : M D} (h : Ev (ga S) fun d S1 => Ev (gb S1) fun e S2 => Ed (f d e) fun z => Q z S2) : Ev (gBin f ga gb S) Q := by
  obtain ⟨d, S1, e1, e, S2, e2, z, e3, q⟩ := h
  exact ⟨z, S2, by simp only [gBin, e1, e2, e3, Option.bind_some], q⟩
theorem ev_un {f : D → Option D} {ga : M D} (h : Ev (ga S) fun d S1 => Ed (f d) fun z => Q z S1) : Ev (gUn f ga S) Q := by
  obtain ⟨d, S1, e1, z, e3, q⟩ := h
  exact ⟨z, S1, by simp only [gUn, e1, e3, Option.bind_some], q⟩
theorem ev_nil (h : L [] S) : Ev (gNil S) L := ⟨_, _, rfl, h⟩
theorem ev_cons {g : M D} {gs : M (List D)} (h : Ev (g S) fun d S1 => Ev (gs S1) fun ds S2 => L (d :: ds) S2) : Ev (gCons g gs S) L := by
  obtain ⟨d, S1, e1, e, S2, e2, q⟩ := h
  exact ⟨_, S2, by simp only [gCons, e1, e2, Option.bind_some], q⟩
theorem ev_tup {g : M (List D)} (h : Ev (g S) fun ds S1 => ds.length ≤ 16777216 ∧ Q (.tuple ds) S1) : Ev (gTup g S) Q := by
  obtain ⟨d, S1, e1, l, q⟩ := h
  exact ⟨_, S1, by simp only [gTup, e1, Option.bind_some, line_eq, if_pos l], q⟩
theorem ev_lst {g : M (List D)} (h : Ev (g S) fun ds S1 => ds.length ≤ 16777216 ∧ Q (.list ds) S1) : Ev (gLst g S) Q := by
  obtain ⟨d, S1, e1, l, q⟩ := h
  exact ⟨_, S1, by simp only [gLst, e1, Option.bind_some, line_eq, if_pos l], q⟩
theorem ev_call {f : List D → Option D} {g : M (List D)} (h : Ev (g S) fun ds S1 => Ed (f ds) fun z => Q z S1) : Ev (gCall f g S) Q := by
  obtain ⟨d, S1, e1, z, e3, q⟩ := h
  exact ⟨z, S1, by simp only [gCall, e1, e3, Option.bind_some], q⟩
theorem ev_callF {n : Nat} {f : List D → Option D} {g : M (List D)} (h : Ev (g S) fun ds S1 => ds.length = n ∧ Ed (f ds) fun z => Q z S1) : Ev (gCallF n f g S) Q := by
  obtain ⟨d, S1, e1, l, z, e3, q⟩ := h
  exact ⟨z, S1, by simp only [gCallF, e1, e3, Option.bind_some, if_pos l], q⟩
theorem ev_isi {T : String} {g : M D} (h : Ev (g S) fun d S1 => Q (.bool (isT T d)) S1) : Ev (gIsi T g S) Q := by
  obtain ⟨d, S1, e1, q⟩ := h
  exact ⟨_, S1, by simp only [gIsi, e1, Option.bind_some], q⟩
theorem ev_isi2 {T U : String} {g : M D} (h : Ev (g S) fun d S1 => Q (.bool (isT T d || isT U d)) S1) : Ev (gIsi2 T U g S) Q := by
  obtain ⟨d, S1, e1, q⟩ := h
  exact ⟨_, S1, by simp only [gIsi2, e1, Option.bind_some], q⟩
theorem ev_andV {g k : M D} (h : Ev (g S) fun d S1 => ∃ b, d = .bool b ∧ (b = true → Ev (k S1) fun e S2 => ∃ c, e = .bool c ∧ Q (.bool c) S2) ∧ (b = false → Q (.bool false) S1)) : Ev (gAndV g k S) Q := by
  obtain ⟨d, S1, e1, b, rfl, h1, h2⟩ := h
  cases b with
  | true => 
    obtain ⟨e, S2, e2, c, rfl, q⟩ := h1 rfl
    exact ⟨_, S2, by simp [gAndV, e1, e2], q⟩
  | false => exact ⟨_, S1, by simp [gAndV, e1], h2 rfl⟩
theorem ev_orV {g k : M D} (h : Ev (g S) fun d S1 => ∃ b, d = .bool b ∧ (b = false → Ev (k S1) fun e S2 => ∃ c, e = .bool c ∧ Q (.bool c) S2) ∧ (b = true → Q (.bool true) S1)) : Ev (gOrV g k S) Q := by
  obtain ⟨d, S1, e1, b, rfl, h1, h2⟩ := h
  cases b with
  | false => 
    obtain ⟨e, S2, e2, c, rfl, q⟩ := h1 rfl
    exact ⟨_, S2, by simp [gOrV, e1, e2], q⟩
  | true => exact ⟨_, S1, by simp [gOrV, e1], h2 rfl⟩
theorem ev_notV {g : M D} (h : Ev (g S) fun d S1 => ∃ b, d = .bool b ∧ Q (.bool !b) S1) : Ev (gNotV g S) Q := by
  obtain ⟨d, S1, e1, b, rfl, q⟩ := h
  exact ⟨_, S1, by simp [gNotV, e1], q⟩
theorem ev_B {g : M D} (h : Ev (g S) fun d S1 => ∃ b, d = .bool b ∧ P b S1) : Ev (gB g S) P := by
  obtain ⟨d, S1, e1, b, rfl, q⟩ := h
  exact ⟨b, S1, by simp only [gB, e1, Option.bind_some], q⟩
theorem ev_and {g k : M Bool} (h : Ev (g S) fun b S1 => (b = true → Ev (k S1) P) ∧ (b = false → P false S1)) : Ev (gAnd g k S) P := by
  obtain ⟨b, S1, e1, h1, h2⟩ := h
  cases b with
  | true => 
    obtain ⟨c, S2, e2, q⟩ := h1 rfl
    exact ⟨_, S2, by simp [gAnd, e1, e2], q⟩
  | false => exact ⟨_, S1, by simp [gAnd, e1], h2 rfl⟩
theorem ev_or {g k : M Bool} (h : Ev (g S) fun b S1 => (b = false → Ev (k S1) P) ∧ (b = true → P true S1)) : Ev (gOr g k S) P := by
  obtain ⟨b, S1, e1, h1, h2⟩ := h
  cases b with
  | false => 
    obtain ⟨c, S2, e2, q⟩ := h1 rfl
    exact ⟨_, S2, by simp [gOr, e1, e2], q⟩
  | true => exact ⟨_, S1, by simp [gOr, e1], h2 rfl⟩
theorem ev_not {g : M Bool} (h : Ev (g S) fun b S1 => P (!b) S1) : Ev (gNot g S) P := by
  obtain ⟨b, S1, e1, q⟩ := h
  exact ⟨_, S1, by simp [gNot, e1], q⟩
theorem ev_yes (h : P true S) : Ev (gYes S) P := ⟨_, _, rfl, h⟩
theorem ev_if {t : M Bool} {g k : M D} (h : Ev (t S) fun b S1 => (b = true → Ev (g S1) Q) ∧ (b = false → Ev (k S1) Q)) : Ev (gIf t g k S) Q := by
  obtain ⟨b, S1, e1, h1, h2⟩ := h
  cases b with
  | true => 
    obtain ⟨c, S2, e2, q⟩ := h1 rfl
    exact ⟨_, S2, by simp [gIf, e1, e2], q⟩
  | false =>
    obtain ⟨c, S2, e2, q⟩ := h2 rfl
    exact ⟨_, S2, by simp [gIf, e1, e2], q⟩
theorem ev_no (h : O none S) : Ev (gNo S) O := ⟨_, _, rfl, h⟩
theorem ev_so {g : M D} (h : Ev (g S) fun d S1 => ∃ i, d = .int i ∧ O (some i) S1) : Ev (gSo g S) O := by
  obtain ⟨d, S1, e1, i, rfl, q⟩ := h
  exact ⟨_, S1, by simp only [gSo, e1, Option.bind_some], q⟩
theorem ev_sl {g : M D} {gl gh : M (Option Int)} (h : Ev (g S) fun d S1 => Ev (gl S1) fun lo S2 => Ev (gh S2) fun hi S3 => Ed (dSl d lo hi) fun z => Q z S3) : Ev (gSl g gl gh S) Q := by
  obtain ⟨d, S1, e1, lo, S2, e2, hi, S3, e3, z, e4, q⟩ := h
  exact ⟨z, S3, by simp only [gSl, e1, e2, e3, e4, Option.bind_some], q⟩
theorem ev_items {g : M D} (h : Ev (g S) fun d S1 => Ed (itemsOf d) fun xs => L xs S1) : Ev (gItems g S) L := by
  obtain ⟨d, S1, e1, xs, e2, q⟩ := h
  exact ⟨xs, S1, by simp only [gItems, e1, e2, Option.bind_some], q⟩
theorem ev_rng1 {g : M (List D)} (h : Ev (g S) fun ds S1 => ∃ n : Int, ds = [.int n] ∧ -4611686018427387904 ≤ n ∧ n ≤ 16777216 ∧ L (rng 0 n.toNat) S1) : Ev (gRng1 g S) L := by
  obtain ⟨ds, S1, e1, n, rfl, l1, l2, q⟩ := h
  exact ⟨_, S1, by simp only [gRng1, e1, Option.bind_some, line_eq]; rw [if_pos ⟨by omega, by omega⟩], q⟩
theorem ev_rng2 {g : M (List D)} (h : Ev (g S) fun ds S1 => ∃ i j : Int, ds = [.int i, .int j] ∧ -4294967296 ≤ i ∧ i ≤ 4294967296 ∧ -4294967296 ≤ j ∧ j ≤ 4294967296 ∧ j - i ≤ 16777216 ∧ L (rng i (j - i).toNat) S1) : Ev (gRng2 g S) L := by
  obtain ⟨ds, S1, e1, i, j, rfl, l1, l2, l3, l4, l5, q⟩ := h
  exact ⟨_, S1, by simp only [gRng2, e1, Option.bind_some, line_eq]; rw [if_pos ⟨by omega, by omega, by omega, by omega, by omega⟩], q⟩
theorem es_name {i : Nat} {d : D} (h : W ⟨S.sl.set i (some (.dat d)), S.os⟩) : Es (sName i d S) W := ⟨_, rfl, h⟩
theorem es_tup2 {i j : Nat} {d e : D} (h : W ⟨(S.sl.set i (some (.dat d))).set j (some (.dat e)), S.os⟩) : Es (sTup 2 (sCons (sName i) (sCons (sName j) sNil)) (.tuple [d, e]) S) W := ⟨_, rfl, h⟩
theorem es_tup3 {i j k : Nat} {d e f : D} (h : W ⟨((S.sl.set i (some (.dat d))).set j (some (.dat e))).set k (some (.dat f)), S.os⟩) : Es (sTup 3 (sCons (sName i) (sCons (sName j) (sCons (sName k) sNil))) (.tuple [d, e, f]) S) W := ⟨_, rfl, h⟩
/-- what goes on after a statement -/
def Then (h : Sx → Option Out) (Z : Out → Prop) : Out → Prop
  | .nx S => Eo (h S) Z
  | .rt d S => Z (.rt d S)
  | .bk S => Z (.bk S)
  | .ct S => Z (.ct S)
  | .ro j S => Z (.ro j S)
theorem eo_seq {g h : Sx → Option Out} (e : Eo (g S) (Then h Z)) : Eo (qSeq g h S) Z := by
  obtain ⟨o, e1, q⟩ := e
  cases o with
  | nx S1 =>
    obtain ⟨o2, e2, q⟩ := q
    exact ⟨o2, by simp only [qSeq, e1, Option.bind_some, e2], q⟩
  | _ => exact ⟨_, by simp only [qSeq, e1, Option.bind_some], q⟩
theorem then_nx' {h : Sx → Option Out} {S1 : Sx} (e : ∃ S2, S1 = S2 ∧ Eo (h S2) Z) : Then h Z (.nx S1) := by obtain ⟨_, rfl, e⟩ := e; exact e
theorem eo_nx (h : Z (.nx S)) : Eo (qNx S) Z := ⟨_, rfl, h⟩
theorem eo_drop {g : M D} (h : Ev (g S) fun _ S1 => Z (.nx S1)) : Eo (qDrop g S) Z := by
  obtain ⟨d, S1, e1, q⟩ := h
  exact ⟨_, by simp only [qDrop, e1, Option.bind_some], q⟩
theorem eo_ret {g : M D} (h : Ev (g S) fun d S1 => Z (.rt d S1)) : Eo (qRet g S) Z := by
  obtain ⟨d, S1, e1, q⟩ := h
  exact ⟨_, by simp only [qRet, e1, Option.bind_some], q⟩
theorem eo_retN (h : Z (.rt .none S)) : Eo (qRetN S) Z := ⟨_, rfl, h⟩
theorem eo_if {t : M Bool} {g k : Sx → Option Out} (h : Ev (t S) fun b S1 => (b = true → Eo (g S1) Z) ∧ (b = false → Eo (k S1) Z)) : Eo (qIf t g k S) Z := by
  obtain ⟨b, S1, e1, h1, h2⟩ := h
  cases b with
  | true =>
    obtain ⟨c, e2, q⟩ := h1 rfl
    exact ⟨_, by simp [qIf, e1, e2], q⟩
  | false =>
    obtain ⟨c, e2, q⟩ := h2 rfl
    exact ⟨_, by simp [qIf, e1, e2], q⟩
theorem eo_set {i : Nat} {g : M D} (h : Ev (g S) fun d S1 => Z (.nx ⟨S1.sl.set i (some (.dat d)), S1.os⟩)) : Eo (qSet i g S) Z := by
  obtain ⟨d, S1, e1, q⟩ := h
  exact ⟨_, by simp only [qSet, e1, Option.bind_some], q⟩
theorem eo_asg {gg : D → Sx → Option Sx} {g : M D} (h : Ev (g S) fun d S1 => Es (gg d S1) fun S2 => Z (.nx S2)) : Eo (qAsg gg g S) Z := by
  obtain ⟨d, S1, e1, S2, e2, q⟩ := h
  exact ⟨_, by simp only [qAsg, e1, e2, Option.bind_some], q⟩
theorem eo_par {i j : Nat} {g : M (List D)} (h : Ev (g S) fun ds S1 => ∃ d e, ds = [d, e] ∧ Z (.nx ⟨(S1.sl.set i (some (.dat d))).set j (some (.dat e)), S1.os⟩)) : Eo (qPar i j g S) Z := by
  obtain ⟨ds, S1, e1, d, e, rfl, q⟩ := h
  exact ⟨_, by simp only [qPar, e1, Option.bind_some], q⟩
theorem eo_own {i : Nat} {g : M D} (h : Ev (g S) fun d S1 => ∃ ds, d = .list ds ∧ Z (.nx ⟨S1.sl.set i (some (.own S1.os.length)), S1.os ++ [some (.lst ds)]⟩)) : Eo (qOwn i g S) Z := by
  obtain ⟨d, S1, e1, ds, rfl, q⟩ := h
  exact ⟨_, by simp only [qOwn, e1, Option.bind_some], q⟩
theorem eo_retO {g : M D} (h : Ev (g S) fun d S1 => ∃ ds, d = .list ds ∧ Z (.ro S1.os.length ⟨S1.sl, S1.os ++ [some (.lst ds)]⟩)) : Eo (qRetO g S) Z := by
  obtain ⟨d, S1, e1, ds, rfl, q⟩ := h
  exact ⟨_, by simp only [qRetO, e1, Option.bind_some], q⟩
theorem eo_for {gi : M (List D)} {gg : D → Sx → Option Sx} {body : Sx → Option Out} (h : Ev (gi S) fun ds S1 => Eo (gLoop gg body ds S1) Z) : Eo (qFor gi gg body S) Z := by
  obtain ⟨ds, S1, e1, o, e2, q⟩ := h
  exact ⟨_, by simp only [qFor, e1, Option.bind_some, e2], q⟩
theorem eo_loop {gg : D → Sx → Option Sx} {body : Sx → Option Out} {ds : List D} (I : Nat → Sx → Prop) (h0 : I 0 S) (hs : ∀ i d S, ds[i]? = some d → I i S → Es (gg d S) fun S1 => Eo (body S1) fun o => ∃ S2, o = .nx S2 ∧ I (i + 1) S2) (hz : ∀ S', I ds.length S' → Z (.nx S')) : Eo (gLoop gg body ds S) Z := by
  obtain ⟨S', e, q⟩ := loop_inv (gg := gg) (body := body) I ds 0 S h0 fun i d S h1 h2 => by
    rw [Nat.zero_add] at h2 ⊢
    obtain ⟨S1, e1, o, e2, S2, rfl, q⟩ := hs i d S h1 h2
    exact ⟨S1, S2, e1, e2, q⟩
  rw [Nat.zero_add] at q
  exact ⟨_, e, hz S' q⟩
end

theorem then_rt {h : Sx → Option Out} {Z : Out → Prop} {d : D} {S : Sx} (q : Z (.rt d S)) : Then h Z (.rt d S) := q
theorem split_t {A B : Prop} {b : Bool} (e : b = true) (h : A) : (b = true → A) ∧ (b = false → B) := ⟨fun _ => h, fun k => by rw [e] at k; cases k⟩
theorem split_f {A B : Prop} {b : Bool} (e : b = false) (h : B) : (b = true → A) ∧ (b = false → B) := ⟨fun k => (by rw [e] at k; cases k), fun _ => h⟩
theorem split_t' {A B : Prop} {b : Bool} (e : b = true) (h : A) : (b = false → B) ∧ (b = true → A) := ⟨fun k => (by rw [e] at k; cases k), fun _ => h⟩
theorem split_f' {A B : Prop} {b : Bool} (e : b = false) (h : B) : (b = false → B) ∧ (b = true → A) := ⟨fun _ => h, fun k => by rw [e] at k; cases k⟩
/-! ### whole defs -/
def Gives (z : D) : Out → Prop
  | .rt d _ => d = z
  | .nx _ => z = .none
  | _ => False
theorem mF_of {n : Nat} {g : Sx → Option Out} {ds : List D} {z : D} (h : Eo (g ⟨initS n ds, []⟩) (Gives z)) : mF n g ds = some z := by
  obtain ⟨o, e, q⟩ := h
  unfold mF
  rw [e]
  cases o with
  | nx S => cases q; rfl
  | rt d S => cases q; rfl
  | _ => exact q.elim
theorem gives_rt {z d : D} {S : Sx} (h : d = z) : Gives z (.rt d S) := h
@[simp] theorem gives_rtI {z d : D} {S : Sx} : Gives z (.rt d S) ↔ d = z := Iff.rfl
theorem gives_nx {S : Sx} : Gives .none (.nx S) := rfl
def GivesO (Q : D → List D → Prop) : Out → Prop
  | .rt d S => ∃ cs, cellOf S 0 = some cs ∧ Q d cs
  | .nx S => ∃ cs, cellOf S 0 = some cs ∧ Q .none cs
  | _ => False
theorem mIO_of {n : Nat} {g : Sx → Option Out} {cs ds : List D} {Q : D → List D → Prop} (h : Eo (g ⟨some (.own 0) :: initS (n - 1) ds, [some (.lst cs)]⟩) (GivesO Q)) : ∃ d cs', mIO n g cs ds = some (d, cs') ∧ Q d cs' := by
  obtain ⟨o, e, q⟩ := h
  unfold mIO
  rw [e]
  cases o with
  | nx S => obtain ⟨cs', e, q⟩ := q; exact ⟨_, cs', by simp [e], q⟩
  | rt d S => obtain ⟨cs', e, q⟩ := q; exact ⟨_, cs', by simp [e], q⟩
  | _ => exact q.elim
theorem ev_IO {sl : List (Option R)} {os : List (Option Cell)} {i n : Nat} {f : List D → List D → Option (D × List D)} {g : M (List D)} {Q : D → Sx → Prop}
    (h : ∃ j, sl[i]? = some (some (.own j)) ∧ Ev (g ⟨sl, os⟩) fun ds S1 => ∃ cs, S1.os[j]? = some (some (.lst cs)) ∧ ds.length = n ∧ ∃ d cs', f cs ds = some (d, cs') ∧ Q d ⟨S1.sl, S1.os.set j (some (.lst cs'))⟩) : Ev (gIO i n f g ⟨sl, os⟩) Q := by
  obtain ⟨j, hi, ds, S1, e1, cs, e2, l, d, cs', e3, q⟩ := h
  exact ⟨d, _, by simp only [gIO, hi, e1, e2, e3, Option.bind_some, if_pos l], q⟩
theorem ev_ixO {sl : List (Option R)} {os : List (Option Cell)} {i : Nat} {gb : M D} {Q : D → Sx → Prop}
    (h : ∃ j cs, sl[i]? = some (some (.own j)) ∧ os[j]? = some (some (.lst cs)) ∧ Ev (gb ⟨sl, os⟩) fun d S1 => ∃ n, d = .int n ∧ S1 = ⟨sl, os⟩ ∧ Ed (L2.atI cs n) fun e => Q e ⟨sl, os⟩) : Ev (gIxO i gb ⟨sl, os⟩) Q := by
  obtain ⟨j, cs, hi, hc, d, S1, e1, n, rfl, rfl, e, e2, q⟩ := h
  exact ⟨e, _, by simp only [gIxO, ownOf, cellOf, hi, hc, e1, e2, Option.bind_some], q⟩
theorem eo_setO {S : Sx} {i : Nat} {gb ge : M D} {Z : Out → Prop} (h : Ev (ge S) fun d S1 => ∃ j cs, S1.sl[i]? = some (some (.own j)) ∧ S1.os[j]? = some (some (.lst cs)) ∧ Ev (gb S1) fun n S2 => S2 = S1 ∧ ∃ k : Nat, n = .int k ∧ k < cs.length ∧ Z (.nx ⟨S1.sl, S1.os.set j (some (.lst (cs.set k d)))⟩)) : Eo (qSetO i gb ge S) Z := by
  obtain ⟨d, S1, e1, j, cs, hi, hc, n, S2, e2, rfl, k, rfl, l, q⟩ := h
  refine ⟨_, ?_, q⟩
  have : L2.ixN cs.length (k : Int) = some k := by
    unfold L2.ixN
    rw [if_pos (by omega), if_pos (by omega)]; simp
  simp only [qSetO, e1, Option.bind_some, ownOf, cellOf, hi, hc, e2, this, setCell]
theorem ev_app {S : Sx} {i : Nat} {ge : M D} {Q : D → Sx → Prop} (hi : ∃ j cs, S.sl[i]? = some (some (.own j)) ∧ S.os[j]? = some (some (.lst cs)) ∧ Ev (ge S) fun d S1 => ∃ cs, S1.os[j]? = some (some (.lst cs)) ∧ cs.length < 16777216 ∧ Q .none ⟨S1.sl, S1.os.set j (some (.lst (cs ++ [d])))⟩) : Ev (gApp i ge S) Q := by
  obtain ⟨j, cs, h1, h2, d, S1, e1, cs1, h3, l, q⟩ := hi
  refine ⟨_, _, ?_, q⟩
  simp only [gApp, ownOf, h1, h2, cellOf, Option.bind_some, e1, h3, line_eq, if_pos l, setCell]
theorem ev_ext {S : Sx} {i : Nat} {ge : M D} {Q : D → Sx → Prop} (hi : ∃ j cs, S.sl[i]? = some (some (.own j)) ∧ S.os[j]? = some (some (.lst cs)) ∧ Ev (ge S) fun d S1 => ∃ xs, d = .list xs ∧ ∃ cs, S1.os[j]? = some (some (.lst cs)) ∧ cs.length + xs.length ≤ 16777216 ∧ Q .none ⟨S1.sl, S1.os.set j (some (.lst (cs ++ xs)))⟩) : Ev (gExt i ge S) Q := by
  obtain ⟨j, cs, h1, h2, d, S1, e1, xs, rfl, cs1, h3, l, q⟩ := hi
  refine ⟨_, _, ?_, q⟩
  simp only [gExt, ownOf, h1, h2, cellOf, Option.bind_some, e1, h3, line_eq, if_pos l, setCell]
theorem ev_lenO {sl : List (Option R)} {os : List (Option Cell)} {i : Nat} {Q : D → Sx → Prop} (h : ∃ j cs, sl[i]? = some (some (.own j)) ∧ os[j]? = some (some (.lst cs)) ∧ Q (.int cs.length) ⟨sl, os⟩) : Ev (gLenO i ⟨sl, os⟩) Q := by
  obtain ⟨j, cs, hi, hc, h⟩ := h
  exact ⟨_, _, by simp only [gLenO, ownOf, cellOf, hi, hc, Option.bind_some], h⟩
theorem ev_scrSl {sl : List (Option R)} {os : List (Option Cell)} {i : Nat} {gl gh : M (Option Int)} {Q : D → Sx → Prop} (h : ∃ ns, sl[i]? = some (some (.scr ns)) ∧ Ev (gl ⟨sl, os⟩) fun lo S1 => Ev (gh S1) fun hi S2 => Q (.list ((cutL ns lo hi).map .int)) S2) : Ev (gScrSl i gl gh ⟨sl, os⟩) Q := by
  obtain ⟨ns, hi, lo, S1, e1, hi2, S2, e2, h⟩ := h
  exact ⟨_, _, by simp only [gScrSl, scrOf, hi, Option.bind_some, e1, e2], h⟩
theorem ev_scrLen {sl : List (Option R)} {os : List (Option Cell)} {i : Nat} {Q : D → Sx → Prop} (h : ∃ ns : List Int, sl[i]? = some (some (.scr ns)) ∧ Q (.int ns.length) ⟨sl, os⟩) : Ev (gScrLen i ⟨sl, os⟩) Q := by
  obtain ⟨ns, hi, h⟩ := h
  exact ⟨_, _, by simp only [gScrLen, scrOf, hi, Option.bind_some], h⟩
theorem ev_callScr {sl : List (Option R)} {os : List (Option Cell)} {i : Nat} {f : List Int → Option (List D)} {Q : D → Sx → Prop} (h : ∃ ns : List Int, sl[i]? = some (some (.scr ns)) ∧ Ed (f ns) fun z => Q (.list z) ⟨sl, os⟩) : Ev (gCallScr i f ⟨sl, os⟩) Q := by
  obtain ⟨ns, hi, z, e, h⟩ := h
  exact ⟨_, _, by simp only [gCallScr, scrOf, hi, Option.bind_some, e], h⟩
theorem mScrN_of {n : Nat} {g : Sx → Option Out} {ns : List Int} {Q : List D → Prop} (h : Eo (g ⟨some (.scr ns) :: List.replicate (n - 1) none, []⟩) fun o => ∃ j S cs, o = .ro j S ∧ cellOf S j = some cs ∧ Q cs) : ∃ cs, mScrN n g ns = some cs ∧ Q cs := by
  obtain ⟨_, e, j, S, cs, rfl, h, q⟩ := h
  exact ⟨cs, by unfold mScrN; simp only [e, Option.bind_some, h], q⟩
theorem mScr_of {n : Nat} {g : Sx → Option Out} {ns : List Int} {z : D} (h : Eo (g ⟨some (.scr ns) :: List.replicate (n - 1) none, []⟩) fun o => ∃ S, o = .rt z S) : mScr n g ns = some z := by
  obtain ⟨_, e, S, rfl⟩ := h
  unfold mScr; simp only [e, Option.bind_some]

/-! ### operations on data -/
section
variable {Q : D → Prop} {i j : Int} {xs ys : List D}
theorem ed_addI (h : Q (.int (i + j))) : Ed (dAdd (.int i) (.int j)) Q := ⟨_, rfl, h⟩
theorem ed_subI (h : Q (.int (i - j))) : Ed (dSub (.int i) (.int j)) Q := ⟨_, rfl, h⟩
theorem ed_addL (l : xs.length + ys.length ≤ 16777216) (h : Q (.list (xs ++ ys))) : Ed (dAdd (.list xs) (.list ys)) Q := ⟨_, by simp only [dAdd, line_eq, if_pos l], h⟩
theorem ed_mulI (l : L2.CMulW i j) (h : Q (.int (i * j))) : Ed (dMul (.int i) (.int j)) Q := ⟨_, by simp only [dMul, if_pos l], h⟩
theorem ed_divI (l : L2.CDivW i j) (h : Q (.int (i / j))) : Ed (dDiv (.int i) (.int j)) Q := ⟨_, by simp only [dDiv, if_pos l], h⟩
theorem ed_modI (l : 0 < j) (h : Q (.int (i % j))) : Ed (dMod (.int i) (.int j)) Q := ⟨_, by simp only [dMod, if_pos l], h⟩
theorem ed_cmp {p : Int → Int → Bool} (h : Q (.bool (p i j))) : Ed (dCmp p (.int i) (.int j)) Q := ⟨_, rfl, h⟩
theorem ed_eqI (h : Q (.bool (decide (i = j)))) : Ed (dEq (.int i) (.int j)) Q := ⟨_, dEq_int i j, h⟩
theorem ed_neI (h : Q (.bool (!decide (i = j)))) : Ed (dNe (.int i) (.int j)) Q := ⟨_, dNe_int i j, h⟩
theorem ed_ixT {d : D} (h0 : 0 ≤ i) (e : xs[i.toNat]? = some d) (h : Q d) : Ed (dIx (.tuple xs) (.int i)) Q := ⟨d, by
  have hl := (List.getElem?_eq_some_iff.mp e).1
  show L2.atI xs i = _
  rw [atI_ok h0 (by omega), e], h⟩
theorem ed_ixL {d : D} (h0 : 0 ≤ i) (e : xs[i.toNat]? = some d) (h : Q d) : Ed (dIx (.list xs) (.int i)) Q := ⟨d, by
  have hl := (List.getElem?_eq_some_iff.mp e).1
  show L2.atI xs i = _
  rw [atI_ok h0 (by omega), e], h⟩
theorem ed_at {d : D} {Q : D → Prop} (h0 : 0 ≤ i) (e : xs[i.toNat]? = some d) (h : Q d) : Ed (L2.atI xs i) Q := ed_ixT h0 e h
theorem ed_slT {lo hi : Option Int} (h : Q (.tuple (cutL xs lo hi))) : Ed (dSl (.tuple xs) lo hi) Q := ⟨_, rfl, h⟩
theorem ed_slL {lo hi : Option Int} (h : Q (.list (cutL xs lo hi))) : Ed (dSl (.list xs) lo hi) Q := ⟨_, rfl, h⟩
theorem ed_lenT (h : Q (.int xs.length)) : Ed (dLen [.tuple xs]) Q := ⟨_, rfl, h⟩
theorem ed_lenL (h : Q (.int xs.length)) : Ed (dLen [.list xs]) Q := ⟨_, rfl, h⟩
theorem ed_lenS {x : Str} (h : Q (.int x.length)) : Ed (dLen [.str x]) Q := ⟨_, rfl, h⟩
theorem ed_inS {c : Nat} {y : Str} (h : Q (.bool (decide (c ∈ y.cps.toList)))) : Ed (dIn (.str ⟨#[c]⟩) (.str y)) Q := ⟨_, by simp only [dIn]; rw [PySem.StrLaws.found_one], h⟩
theorem ed_powI (l : L2.CPow i j) (h : Q (.int (i ^ j.toNat))) : Ed (dPow (.int i) (.int j)) Q := ⟨_, by simp only [dPow, if_pos l], h⟩
theorem ed_neg (h : Q (.int (-i))) : Ed (dNeg (.int i)) Q := ⟨_, rfl, h⟩
theorem ed_max (h : Q (.int (max i j))) : Ed (dMax2 [.int i, .int j]) Q := ⟨_, rfl, by
  have : (if j > i then j else i) = max i j := by split <;> omega
  rw [this]; exact h⟩
theorem ed_min (h : Q (.int (min i j))) : Ed (dMin2 [.int i, .int j]) Q := ⟨_, rfl, by
  have : (if j < i then j else i) = min i j := by split <;> omega
  rw [this]; exact h⟩
theorem ed_intB {b : Bool} (h : Q (.int (if b then 1 else 0))) : Ed (dInt [.bool b]) Q := ⟨_, rfl, h⟩
theorem ed_ixS {x : Str} {c : Nat} (h0 : 0 ≤ i) (e : x.cps.toList[i.toNat]? = some c) (h : Q (ch c)) : Ed (dIx (.str x) (.int i)) Q := ⟨_, by
  have hl := (List.getElem?_eq_some_iff.mp e).1
  show (L2.atI x.cps.toList i).bind _ = _
  rw [atI_ok h0 (by omega), e]; rfl, h⟩
theorem ed_itT {Q : List D → Prop} (h : Q xs) : Ed (itemsOf (.tuple xs)) Q := ⟨_, rfl, h⟩
theorem ed_itL {Q : List D → Prop} (h : Q xs) : Ed (itemsOf (.list xs)) Q := ⟨_, rfl, h⟩
theorem ed_tupL (h : Q (.tuple xs)) : Ed (dTuple [.list xs]) Q := ⟨_, rfl, h⟩
theorem ed_tupT (h : Q (.tuple xs)) : Ed (dTuple [.tuple xs]) Q := ⟨_, rfl, h⟩
theorem ed_listL (h : Q (.list xs)) : Ed (dList [.list xs]) Q := ⟨_, rfl, h⟩
theorem ed_listT (h : Q (.list xs)) : Ed (dList [.tuple xs]) Q := ⟨_, rfl, h⟩
end
theorem allBools_fn {α : Type} (f : α → Bool) : ∀ xs : List α, allBools (xs.map fun a => .bool (f a)) = some (xs.map f)
  | [] => rfl
  | a :: xs => by simp [allBools, allBools_fn f xs]
theorem all_map {α : Type} (f : α → Bool) (xs : List α) : dAll [.list (xs.map fun a => .bool (f a))] = some (.bool (xs.all f)) := by
  simp only [dAll, allBools_fn, Option.bind_some]; rw [List.all_map]; rfl
theorem cut_to {α : Type} {xs : List α} {i : Int} (h : 0 ≤ i) : cutL xs none (some i) = xs.take i.toNat := by
  unfold cutL HT.sIx
  simp only [if_neg (show ¬ i < 0 by omega), List.drop_zero, Nat.sub_zero]
  rw [← List.take_take]
  simp [Nat.min_def]
theorem cut_from {α : Type} {xs : List α} {i : Int} (h : 0 ≤ i) : cutL xs (some i) none = xs.drop i.toNat := by
  unfold cutL HT.sIx
  simp only [if_neg (show ¬ i < 0 by omega)]
  by_cases l : i.toNat ≤ xs.length
  · rw [Nat.min_eq_left l, List.take_of_length_le (by simp)]
  · rw [Nat.min_eq_right (by omega), List.drop_of_length_le (Nat.le_refl _), List.drop_of_length_le (by omega), List.take_nil]
/-! ### comprehensions of two clauses -/
theorem wipe_sub {sl : List (Option R)} {ws vs : List Nat} (h : ∀ v ∈ ws, v ∈ vs) : wipeS (wipeS sl ws) vs = wipeS sl vs := by
  apply List.ext_getElem?
  intro n
  by_cases hn : n ∈ vs
  · rw [wipeS_in' hn, wipeS_in' hn, wipeS_len]
  · rw [wipeS_out hn, wipeS_out hn, wipeS_out fun z => hn (h n z)]
theorem ev_varO {sl : List (Option R)} {os : List (Option Cell)} {i : Nat} {Q : D → Sx → Prop} (h : ∃ j cs, sl[i]? = some (some (.own j)) ∧ os[j]? = some (some (.lst cs)) ∧ Q (.list cs) ⟨sl.set i (some (.dat (.list cs))), os.set j none⟩) : Ev (gVar i ⟨sl, os⟩) Q := by
  obtain ⟨j, cs, e1, e2, h⟩ := h
  exact ⟨_, _, by unfold gVar; simp only [e1, e2], h⟩
theorem ed_pick {Q P : D → Prop} {xs : List D} {i : Int} (h0 : 0 ≤ i) (h1 : i < xs.length) (hp : ∀ x ∈ xs, P x) (h : ∀ x, P x → Q x) : Ed (dIx (.list xs) (.int i)) Q := by
  have hl : i.toNat < xs.length := by omega
  exact ed_ixL h0 (List.getElem?_eq_getElem hl) (h _ (hp _ (List.getElem_mem hl)))
theorem ed_pickS {Q : D → Prop} {P : Nat → Prop} {x : Str} {i : Int} (h0 : 0 ≤ i) (h1 : i < x.length) (hp : ∀ c ∈ x.cps.toList, P c) (h : ∀ c, P c → Q (ch c)) : Ed (dIx (.str x) (.int i)) Q := by
  have hl : i.toNat < x.cps.toList.length := by
    have : x.cps.toList.length = x.length := Array.length_toList
    omega
  exact ed_ixS h0 (List.getElem?_eq_getElem hl) (h _ (hp _ (List.getElem_mem hl)))
open Classical in
theorem ed_ne_good {Q : D → Prop} {d e : D} {m n : Nat} (g : Good m d) (k : Good n e) (q1 : d = e → Q (.bool false)) (q2 : d ≠ e → Q (.bool true)) (l1 : m ≤ 64 := by decide) (l2 : n ≤ 64 := by decide) : Ed (dNe d e) Q := by
  refine Ed.of (dNe_good g k l1 l2) ?_
  by_cases x : d = e
  · rw [decide_eq_true x]; exact q1 x
  · rw [decide_eq_false x]; exact q2 x
open Classical in
theorem ed_eq_good {Q : D → Prop} {d e : D} {m n : Nat} (g : Good m d) (k : Good n e) (q1 : d = e → Q (.bool true)) (q2 : d ≠ e → Q (.bool false)) (l1 : m ≤ 64 := by decide) (l2 : n ≤ 64 := by decide) : Ed (dEq d e) Q := by
  refine Ed.of (dEq_good g k l1 l2) ?_
  by_cases x : d = e
  · rw [decide_eq_true x]; exact q1 x
  · rw [decide_eq_false x]; exact q2 x
/-! ### comprehensions whose item changes the lists -/
theorem ev_zip {S : Sx} {L : List D → Sx → Prop} {g : M (List D)} (h : Ev (g S) fun ds S1 => (∃ xs ys, ds = [.list xs, .list ys] ∧ L (zipD xs ys) S1) ∨ (∃ xs ys, ds = [.tuple xs, .tuple ys] ∧ L (zipD xs ys) S1)) : Ev (gZip g S) L := by
  obtain ⟨ds, S1, e1, h⟩ := h
  rcases h with ⟨xs, ys, rfl, h⟩ | ⟨xs, ys, rfl, h⟩
  · exact ⟨_, _, by simp only [gZip, e1, Option.bind_some], h⟩
  · exact ⟨_, _, by simp only [gZip, e1, Option.bind_some], h⟩
theorem zipD_map {α β : Type} (f : α → D) (g : β → D) : ∀ (xs : List α) (ys : List β), zipD (xs.map f) (ys.map g) = (xs.zip ys).map fun p => .tuple [f p.1, g p.2]
  | [], _ => rfl
  | _ :: _, [] => rfl
  | x :: xs, y :: ys => by
    rw [List.map_cons, List.map_cons, zipD, zipD_map f g xs ys]; rfl
/-! ### how many unlike ones -/
theorem dedup_len : ∀ (l acc : List Int), acc.Nodup → (l.foldl PyProof.Rows.step_dedup acc).length ≤ acc.length + l.length ∧ ((l.foldl PyProof.Rows.step_dedup acc).length = acc.length + l.length ↔ (acc ++ l).Nodup)
  | [], acc, h => by simp [h]
  | x :: l, acc, h => by
    simp only [List.foldl_cons, PyProof.Rows.step_dedup]
    by_cases hx : acc.any (· == x) = true
    · rw [if_pos hx]
      obtain ⟨h1, h2⟩ := dedup_len l acc h
      refine ⟨by simp only [List.length_cons]; omega, ⟨fun e => ?_, fun e => ?_⟩⟩
      · simp only [List.length_cons] at e; omega
      · exfalso
        obtain ⟨y, hy, e2⟩ := List.any_eq_true.mp hx
        have e2 : y = x := by simpa using e2
        subst e2
        exact (List.nodup_append.mp e).2.2 y hy y List.mem_cons_self rfl
    · rw [if_neg hx]
      have hm : x ∉ acc := fun z => hx (List.any_eq_true.mpr ⟨x, z, by simp⟩)
      have hn : (acc ++ [x]).Nodup := by
        rw [List.nodup_append]
        exact ⟨h, by simp, fun a ha b hb => by rw [List.mem_singleton.mp hb]; exact fun e => hm (e ▸ ha)⟩
      obtain ⟨h1, h2⟩ := dedup_len l (acc ++ [x]) hn
      simp only [List.length_append, List.length_cons, List.length_nil, List.append_assoc, List.cons_append, List.nil_append] at h1 h2 ⊢
      refine ⟨by omega, ?_⟩
      rw [← h2]
      constructor <;> intro e <;> omega
theorem unlike_iff {ns : List Int} : unlike ns = ns.length ↔ ns.Nodup := by
  have e : (List.range ns.length).map (fun i => ns.getD i 0) = ns := by
    apply List.ext_getElem?
    intro i
    rw [List.getElem?_map]
    by_cases h : i < ns.length
    · rw [List.getElem?_range h]
      simp [List.getD_eq_getElem?_getD, h]
    · rw [List.getElem?_eq_none (by simpa using h), List.getElem?_eq_none (by omega)]; rfl
  unfold unlike PyProof.Rows.firstMet
  rw [e]
  have := (dedup_len ns [] (by simp)).2
  simpa using this
theorem ed_lenSet {Q : D → Prop} {ns : List Int} (l : ns.length ≤ 4000) (h : Q (.int (unlike ns : Nat))) : Ed (dLenSet (.list (ns.map .int))) Q := ⟨_, by simp only [dLenSet, allInts_of, Option.bind_some, if_pos l], h⟩
theorem ed_rev {Q : D → Prop} {xs : List D} (h : Q (.list xs.reverse)) : Ed (dRevL (.list xs)) Q := ⟨_, rfl, h⟩
theorem ev_listRng1 {S : Sx} {Q : D → Sx → Prop} {g : M D} (h : Ev (g S) fun d S1 => ∃ n : Int, d = .int n ∧ -4611686018427387904 ≤ n ∧ n ≤ 16777216 ∧ Q (.list (rng 0 n.toNat)) S1) : Ev (gListRng1 g S) Q := by
  obtain ⟨ds, S1, e1, n, rfl, l1, l2, q⟩ := h
  exact ⟨_, S1, by simp only [gListRng1, e1, Option.bind_some]; rw [if_pos ⟨by omega, by omega⟩], q⟩
theorem ev_OL {sl : List (Option R)} {os : List (Option Cell)} {i : Nat} {f : D → D → Option D} {gb : M D} {Q : D → Sx → Prop} (h : ∃ j cs0, sl[i]? = some (some (.own j)) ∧ os[j]? = some (some (.lst cs0)) ∧ Ev (gb ⟨sl, os⟩) fun d S1 => ∃ cs, S1.os[j]? = some (some (.lst cs)) ∧ Ed (f (.list cs) d) fun z => ∃ b, z = .bool b ∧ Q (.bool b) S1) : Ev (gOL f i gb ⟨sl, os⟩) Q := by
  obtain ⟨j, cs0, h1, h2, d, S1, e1, cs, h3, z, e2, b, rfl, q⟩ := h
  exact ⟨_, _, by simp only [gOL, ownOf, cellOf, h1, h2, e1, h3, e2, Option.bind_some], q⟩
theorem ev_OR {S : Sx} {i : Nat} {f : D → D → Option D} {gb : M D} {Q : D → Sx → Prop} (h : Ev (gb S) fun d S1 => ∃ j cs, S1.sl[i]? = some (some (.own j)) ∧ S1.os[j]? = some (some (.lst cs)) ∧ Ed (f d (.list cs)) fun z => ∃ b, z = .bool b ∧ Q (.bool b) S1) : Ev (gOR f gb i S) Q := by
  obtain ⟨d, S1, e1, j, cs, h1, h2, z, e2, b, rfl, q⟩ := h
  exact ⟨_, _, by simp only [gOR, ownOf, cellOf, h1, h2, e1, e2, Option.bind_some], q⟩
theorem ev_popAt {S : Sx} {i : Nat} {ge : M D} {Q : D → Sx → Prop} (hi : ∃ j cs0, S.sl[i]? = some (some (.own j)) ∧ S.os[j]? = some (some (.lst cs0)) ∧ Ev (ge S) fun d S1 => ∃ cs n, S1.os[j]? = some (some (.lst cs)) ∧ d = .int n ∧ 0 ≤ n ∧ ∃ e, cs[n.toNat]? = some e ∧ Q e ⟨S1.sl, S1.os.set j (some (.lst (cs.eraseIdx n.toNat)))⟩) : Ev (gPopAt i ge S) Q := by
  obtain ⟨j, cs0, h1, h2, d, S1, e1, cs, n, h3, rfl, n0, e, he, q⟩ := hi
  have hl := (List.getElem?_eq_some_iff.mp he).1
  refine ⟨e, _, ?_, q⟩
  simp only [gPopAt, ownOf, cellOf, h1, h2, e1, h3, Option.bind_some, setCell]
  rw [if_pos ⟨n0, by omega⟩, he]; rfl
theorem ev_rep {S : Sx} {f : D → D → Option D} {ga gb : M D} {Q : D → Sx → Prop} (h : Ev (gBin f ga gb S) fun d S1 => ∃ ds, d = .list ds ∧ Q (.list ds) S1) : Ev (gRep f ga gb S) Q := by
  obtain ⟨d, S1, e1, ds, rfl, q⟩ := h
  exact ⟨_, _, by simp only [gRep, e1, Option.bind_some], q⟩
theorem ed_atLast {xs : List D} {d : D} {Q : D → Prop} (e : xs.getLast? = some d) (q : Q d) : Ed (L2.atI xs (-1)) Q := by
  refine ⟨d, ?_, q⟩
  have h0 : 0 < xs.length := by
    cases xs with
    | nil => simp at e
    | cons x xs => simp
  unfold L2.atI L2.ixN
  rw [if_neg (by decide), if_pos (by omega)]
  show xs[((-1 : Int) + (xs.length : Int)).toNat]? = _
  rw [show ((-1 : Int) + (xs.length : Int)).toNat = xs.length - 1 by omega, ← List.getLast?_eq_getElem?]
  exact e
end Fu

set_option maxHeartbeats 16000000
namespace Lw
open PySem PySem.Spec PyProof.Rows L2 RZ Fu
def g_is_whole : Sx → Option Out :=
  (qRet (gAndV (gIsi "int" (gVar 0)) (gAndV (gNotV (gIsi "bool" (gVar 0))) (gBin dGe (gVar 0) (gC (.int 0))))))
def m_is_whole := mF 1 g_is_whole
def g_is_row : Sx → Option Out :=
  (qRet (gAndV (gIsi2 "list" "tuple" (gVar 0)) (gBin dEq (gCall dLen (gCons (gVar 0) gNil)) (gVar 1))))
def m_is_row := mF 2 g_is_row
def g_place_of : Sx → Option Out :=
  (qRet (gBin dIx (gBin dIx (gBin dIx (gVar 0) (gC (.int 1))) (gBin dIx (gVar 1) (gC (.int 0)))) (gBin dIx (gVar 1) (gC (.int 1)))))
def m_place_of := mF 2 g_place_of
def g_is_end : Sx → Option Out :=
  (qSeq (qIf (gOr (gNot (gB (gCallF 2 m_is_row (gCons (gVar 1) (gCons (gC (.int 2)) gNil))))) (gOr (gNot (gB (gCallF 1 m_is_whole (gCons (gBin dIx (gVar 1) (gC (.int 0))) gNil)))) (gNot (gB (gCallF 1 m_is_whole (gCons (gBin dIx (gVar 1) (gC (.int 1))) gNil)))))) (qRet (gC (.bool false))) qNx) (qRet (gAndV (gBin dLt (gBin dIx (gVar 1) (gC (.int 0))) (gCall dLen (gCons (gBin dIx (gVar 0) (gC (.int 1))) gNil))) (gBin dLt (gBin dIx (gVar 1) (gC (.int 1))) (gC (.int 2))))))
def m_is_end := mF 2 g_is_end
def g_company_of : Sx → Option Out :=
  (qRet (gBin dIx (gBin dIx (gBin dIx (gVar 0) (gC (.int 1))) (gBin dIx (gVar 1) (gC (.int 0)))) (gC (.int 2))))
def m_company_of := mF 2 g_company_of
def g__law_spring : Sx → Option Out :=
  (qSeq (qSet 1 (gC (.int 0))) (qSeq (qSet 2 (gC (.int 88651))) (qSeq (qFor (gItems (gScrSl 0 gNo (gSo (gC (.int 63))))) (sName 3) (qSeq (qIf (gB (gBin dGe (gCall dAbs (gCons (gVar 3) gNil)) (gBin dPow (gC (.int 10)) (gC (.int 18))))) (qSet 1 (gBin dAdd (gBin dMul (gVar 1) (gBin dPow (gC (.int 10)) (gC (.int 60)))) (gBin dMod (gCall dAbs (gCons (gVar 3) gNil)) (gBin dPow (gC (.int 10)) (gC (.int 60)))))) qNx) (qSet 2 (gBin dMod (gBin dAdd (gBin dAdd (gBin dMul (gVar 2) (gC (.int 69069))) (gBin dMod (gVar 3) (gC (.int 2305843009213693921)))) (gC (.int 7))) (gC (.int 2305843009213693951)))))) (qRetO (gLst (gCons (gVar 1) (gCons (gVar 2) (gCons (gC (.int 0)) gNil))))))))
def m__law_spring := mScrN 4 g__law_spring
def g__law_draw_k15 : Sx → Option Out :=
  (qSeq (qIf (gB (gBin dGt (gIxO 0 (gC (.int 0))) (gC (.int 0)))) (qSeq (qSet 2 (gBin dMod (gIxO 0 (gC (.int 0))) (gVar 1))) (qSeq (qSetO 0 (gC (.int 0)) (gBin dDiv (gIxO 0 (gC (.int 0))) (gVar 1))) (qRet (gVar 2)))) qNx) (qSeq (qSetO 0 (gC (.int 2)) (gBin dAdd (gIxO 0 (gC (.int 2))) (gC (.int 1)))) (qSeq (qSet 3 (gBin dMod (gBin dMul (gIxO 0 (gC (.int 1))) (gIxO 0 (gC (.int 1)))) (gC (.int 2305843009213693951)))) (qSeq (qSetO 0 (gC (.int 1)) (gBin dMod (gBin dAdd (gBin dAdd (gVar 3) (gBin dMul (gBin dMul (gC (.int 7919)) (gIxO 0 (gC (.int 2)))) (gIxO 0 (gC (.int 1))))) (gC (.int 104729))) (gC (.int 2305843009213693951)))) (qRet (gBin dMod (gBin dDiv (gIxO 0 (gC (.int 1))) (gC (.int 65537))) (gVar 1)))))))
def m__law_draw_k15 := mIO 4 g__law_draw_k15
def g__law_web : Sx → Option Out :=
  (qSeq (qSet 2 (gBin dAdd (gC (.int 1)) (gIO 0 1 m__law_draw_k15 (gCons (gBin dIx (gLst (gCons (gC (.int 2)) (gCons (gC (.int 3)) (gCons (gC (.int 5)) (gCons (gC (.int 24)) gNil))))) (gIO 0 1 m__law_draw_k15 (gCons (gC (.int 4)) gNil))) gNil)))) (qSeq (qSet 3 (gBin dIx (gLst (gCons (gC (.str "a")) (gCons (gC (.str "ab")) (gCons (gC (.str "aab")) (gCons (gC (.str "abc")) (gCons (gC (.str "abcdz")) (gCons (gC (.str "abcdefghijklmnopqrstuvwxyz")) gNil))))))) (gIO 0 1 m__law_draw_k15 (gCons (gC (.int 6)) gNil)))) (qSeq (qOwn 4 (gLst gNil)) (qSeq (qFor (gRng1 (gCons (gIO 0 1 m__law_draw_k15 (gCons (gBin dAdd (gVar 1) (gC (.int 1))) gNil)) gNil)) (sName 5) (qSeq (qSet 6 (gIO 0 1 m__law_draw_k15 (gCons (gVar 2) gNil))) (qSeq (qSet 7 (gBin dIx (gLst (gCons (gIO 0 1 m__law_draw_k15 (gCons (gVar 2) gNil)) (gCons (gVar 6) (gCons (gBin dMod (gBin dAdd (gVar 6) (gC (.int 1))) (gVar 2)) gNil)))) (gBin dIx (gLst (gCons (gC (.int 0)) (gCons (gC (.int 0)) (gCons (gC (.int 1)) (gCons (gC (.int 2)) gNil))))) (gIO 0 1 m__law_draw_k15 (gCons (gC (.int 4)) gNil))))) (qDrop (gApp 4 (gTup (gCons (gVar 6) (gCons (gVar 7) (gCons (gBin dIx (gVar 3) (gIO 0 1 m__law_draw_k15 (gCons (gCall dLen (gCons (gVar 3) gNil)) gNil))) gNil))))))))) (qRet (gTup (gCons (gVar 2) (gCons (gCall dTuple (gCons (gVar 4) gNil)) gNil))))))))
def m__law_web := mIO 8 g__law_web
def g__law_all_ends : Sx → Option Out :=
  (qRet (gLc (gRng1 (gCons (gBin dMul (gC (.int 2)) (gCall dLen (gCons (gBin dIx (gVar 0) (gC (.int 1))) gNil))) gNil)) (sName 1) gYes (gTup (gCons (gBin dDiv (gVar 1) (gC (.int 2))) (gCons (gBin dMod (gVar 1) (gC (.int 2))) gNil))) [1]))
def m__law_all_ends := mF 2 g__law_all_ends
def g__law_at : Sx → Option Out :=
  (qRet (gBin dIx (gBin dIx (gBin dIx (gVar 0) (gC (.int 1))) (gBin dIx (gVar 1) (gC (.int 0)))) (gBin dIx (gVar 1) (gC (.int 1)))))
def m__law_at := mF 2 g__law_at
def g__law_other : Sx → Option Out :=
  (qRet (gTup (gCons (gBin dIx (gVar 0) (gC (.int 0))) (gCons (gBin dSub (gC (.int 1)) (gBin dIx (gVar 0) (gC (.int 1)))) gNil))))
def m__law_other := mF 1 g__law_other
def g__law_goes : Sx → Option Out :=
  (qSeq (qIf (gB (gBin dNe (gCallF 2 m__law_at (gCons (gVar 0) (gCons (gCallF 1 m__law_other (gCons (gVar 1) gNil)) gNil))) (gCallF 2 m__law_at (gCons (gVar 0) (gCons (gVar 2) gNil))))) (qRet (gC (.bool false))) qNx) (qRet (gBin dNe (gBin dIx (gBin dIx (gBin dIx (gVar 0) (gC (.int 1))) (gBin dIx (gVar 1) (gC (.int 0)))) (gC (.int 2))) (gBin dIx (gBin dIx (gBin dIx (gVar 0) (gC (.int 1))) (gBin dIx (gVar 2) (gC (.int 0)))) (gC (.int 2))))))
def m__law_goes := mF 3 g__law_goes
def g__law_bent_k15 : Sx → Option Out :=
  (qSeq (qOwn 3 (gCall dList (gCons (gVar 2) gNil))) (qSeq (qSet 4 (gIO 0 1 m__law_draw_k15 (gCons (gLenO 3) gNil))) (qSeq (qSet 5 (gIO 0 1 m__law_draw_k15 (gCons (gC (.int 9)) gNil))) (qSeq (qSet 6 (gTup (gCons (gIO 0 1 m__law_draw_k15 (gCons (gCall dLen (gCons (gBin dIx (gVar 1) (gC (.int 1))) gNil)) gNil)) (gCons (gIO 0 1 m__law_draw_k15 (gCons (gC (.int 2)) gNil)) gNil)))) (qSeq (qIf (gB (gBin dEq (gVar 5) (gC (.int 0)))) (qSetO 3 (gVar 4) (gTup (gCons (gBin dIx (gIxO 3 (gVar 4)) (gC (.int 0))) (gCons (gBin dSub (gC (.int 1)) (gBin dIx (gIxO 3 (gVar 4)) (gC (.int 1)))) gNil)))) qNx) (qSeq (qIf (gB (gBin dEq (gVar 5) (gC (.int 1)))) (qSetO 3 (gVar 4) (gVar 6)) qNx) (qSeq (qIf (gB (gBin dEq (gVar 5) (gC (.int 2)))) (qOwn 3 (gRep dAdd (gSlO 3 gNo (gSo (gVar 4))) (gSlO 3 (gSo (gBin dAdd (gVar 4) (gC (.int 1)))) gNo))) qNx) (qSeq (qIf (gB (gBin dEq (gVar 5) (gC (.int 3)))) (qOwn 3 (gRep dAdd (gBin dAdd (gSlO 3 gNo (gSo (gVar 4))) (gLst (gCons (gIxO 3 (gVar 4)) gNil))) (gSlO 3 (gSo (gVar 4)) gNo))) qNx) (qSeq (qIf (gB (gBin dEq (gVar 5) (gC (.int 4)))) (qOwn 3 (gUn dRevL (gVar 3))) qNx) (qSeq (qIf (gB (gBin dEq (gVar 5) (gC (.int 5)))) (qOwn 3 (gRep dAdd (gSlO 3 (gSo (gVar 4)) gNo) (gSlO 3 gNo (gSo (gVar 4))))) qNx) (qSeq (qIf (gB (gBin dEq (gVar 5) (gC (.int 6)))) (qOwn 3 (gRep dAdd (gBin dAdd (gSlO 3 gNo (gSo (gVar 4))) (gLst (gCons (gVar 6) gNil))) (gSlO 3 (gSo (gVar 4)) gNo))) qNx) (qSeq (qIf (gB (gBin dEq (gVar 5) (gC (.int 7)))) (qOwn 3 (gSlO 3 gNo (gSo (gBin dAdd (gVar 4) (gC (.int 1)))))) qNx) (qSeq (qIf (gB (gBin dEq (gVar 5) (gC (.int 8)))) (qSeq (qSet 7 (gIO 0 1 m__law_draw_k15 (gCons (gLenO 3) gNil))) (qAsg (sTup 2 (sCons (sIxO 3 (gVar 4)) (sCons (sIxO 3 (gVar 7)) sNil))) (gTup (gCons (gIxO 3 (gVar 7)) (gCons (gIxO 3 (gVar 4)) gNil))))) qNx) (qRet (gVar 3)))))))))))))))
def m__law_bent_k15 := mIO 8 g__law_bent_k15
def g__law_is_end_k15 : Sx → Option Out :=
  (qSeq (qIf (gOr (gNot (gB (gIsi2 "list" "tuple" (gVar 1)))) (gB (gBin dNe (gCall dLen (gCons (gVar 1) gNil)) (gC (.int 2))))) (qRet (gC (.bool false))) qNx) (qSeq (qIf (gB (gBin dNe (gLc (gItems (gVar 1)) (sName 2) (gOr (gB (gIsi "bool" (gVar 2))) (gNot (gB (gIsi "int" (gVar 2))))) (gVar 2) [2]) (gLst gNil))) (qRet (gC (.bool false))) qNx) (qRet (gAndV (gChain dLe dLt (gC (.int 0)) (gBin dIx (gVar 1) (gC (.int 0))) (gCall dLen (gCons (gBin dIx (gVar 0) (gC (.int 1))) gNil))) (gChain dLe dLe (gC (.int 0)) (gBin dIx (gVar 1) (gC (.int 1))) (gC (.int 1)))))))
def m__law_is_end_k15 := mF 3 g__law_is_end_k15
def g__law_is_ride : Sx → Option Out :=
  (qSeq (qIf (gOr (gNot (gB (gIsi2 "list" "tuple" (gVar 1)))) (gB (gBin dEq (gCall dLen (gCons (gVar 1) gNil)) (gC (.int 0))))) (qRet (gC (.bool false))) qNx) (qSeq (qIf (gB (gBin dNe (gLc (gItems (gVar 1)) (sName 3) (gNot (gB (gCallF 2 m__law_is_end_k15 (gCons (gVar 0) (gCons (gVar 3) gNil))))) (gVar 3) [3]) (gLst gNil))) (qRet (gC (.bool false))) qNx) (qSeq (qSet 2 (gLc (gItems (gVar 1)) (sName 3) gYes (gBin dIx (gVar 3) (gC (.int 0))) [3])) (qSeq (qIf (gB (gBin dNe (gLc (gItems (gVar 2)) (sName 4) (gB (gBin dGt (gBin dCount (gVar 2) (gVar 4)) (gC (.int 1)))) (gVar 4) [4]) (gLst gNil))) (qRet (gC (.bool false))) qNx) (qRet (gBin dEq (gLc (gRng2 (gCons (gC (.int 1)) (gCons (gCall dLen (gCons (gVar 1) gNil)) gNil))) (sName 5) (gNot (gB (gCallF 3 m__law_goes (gCons (gVar 0) (gCons (gBin dIx (gVar 1) (gBin dSub (gVar 5) (gC (.int 1)))) (gCons (gBin dIx (gVar 1) (gVar 5)) gNil)))))) (gVar 5) [5]) (gLst gNil)))))))
def m__law_is_ride := mF 6 g__law_is_ride
def g__law_lists (self : List D → Option D) : Sx → Option Out :=
  (qRet (gIf (gB (gIsi2 "list" "tuple" (gVar 0))) (gLc (gItems (gVar 0)) (sName 1) gYes (gCallF 1 self (gCons (gVar 1) gNil)) [1]) (gVar 0)))
def m__law_lists : Nat → List D → Option D
  | 0 => fun _ => none
  | n + 1 => mF 2 (g__law_lists (m__law_lists n))
def g__law_handed : Sx → Option Out :=
  (qRet (gIf (gB (gBin dGt (gIO 0 1 m__law_draw_k15 (gCons (gC (.int 3)) gNil)) (gC (.int 0)))) (gVar 1) (gCallF 1 (m__law_lists 8) (gCons (gVar 1) gNil))))
def m__law_handed := mIO 2 g__law_handed
def g_far_end : Sx → Option Out :=
  (qRet (gTup (gCons (gBin dIx (gVar 0) (gC (.int 0))) (gCons (gBin dSub (gC (.int 1)) (gBin dIx (gVar 0) (gC (.int 1)))) gNil))))
def m_far_end := mF 1 g_far_end
def g_can_go_on : Sx → Option Out :=
  (qSeq (qIf (gB (gBin dNe (gCallF 2 m_place_of (gCons (gVar 0) (gCons (gCallF 1 m_far_end (gCons (gVar 1) gNil)) gNil))) (gCallF 2 m_place_of (gCons (gVar 0) (gCons (gVar 2) gNil))))) (qRet (gC (.bool false))) qNx) (qRet (gBin dNe (gCallF 2 m_company_of (gCons (gVar 0) (gCons (gVar 1) gNil))) (gCallF 2 m_company_of (gCons (gVar 0) (gCons (gVar 2) gNil))))))
def m_can_go_on := mF 3 g_can_go_on
def g_ride_is : Sx → Option Out :=
  (qSeq (qIf (gOr (gNot (gB (gIsi2 "list" "tuple" (gVar 1)))) (gOr (gB (gBin dEq (gCall dLen (gCons (gVar 1) gNil)) (gC (.int 0)))) (gNot (gB (gCall dAll (gCons (gLc (gItems (gVar 1)) (sName 2) gYes (gCallF 2 m_is_end (gCons (gVar 0) (gCons (gVar 2) gNil))) [2]) gNil)))))) (qRet (gC (.bool false))) qNx) (qSeq (qIf (gB (gBin dNe (gUn dLenSet (gLc (gItems (gVar 1)) (sName 2) gYes (gBin dIx (gVar 2) (gC (.int 0))) [2])) (gCall dLen (gCons (gVar 1) gNil)))) (qRet (gC (.bool false))) qNx) (qRet (gCall dAll (gCons (gLc (gZip (gCons (gVar 1) (gCons (gSl (gVar 1) (gSo (gC (.int 1))) gNo) gNil))) (sTup 2 (sCons (sName 2) (sCons (sName 3) sNil))) gYes (gCallF 3 m_can_go_on (gCons (gVar 0) (gCons (gVar 2) (gCons (gVar 3) gNil)))) [2, 3]) gNil)))))
def m_ride_is := mF 4 g_ride_is
def g_round_is : Sx → Option Out :=
  (qRet (gAndV (gCallF 2 m_ride_is (gCons (gVar 0) (gCons (gVar 1) gNil))) (gCallF 3 m_can_go_on (gCons (gVar 0) (gCons (gBin dIx (gVar 1) (gUn dNeg (gC (.int 1)))) (gCons (gBin dIx (gVar 1) (gC (.int 0))) gNil))))))
def m_round_is := mF 2 g_round_is
def g__law_is_round : Sx → Option Out :=
  (qRet (gAndV (gCallF 2 m__law_is_ride (gCons (gVar 0) (gCons (gVar 1) gNil))) (gCallF 3 m__law_goes (gCons (gVar 0) (gCons (gBin dIx (gVar 1) (gUn dNeg (gC (.int 1)))) (gCons (gBin dIx (gVar 1) (gC (.int 0))) gNil))))))
def m__law_is_round := mF 2 g__law_is_round
def g__law_pieces : Sx → Option Out :=
  (qSeq (qOwn 2 (gLst gNil)) (qSeq (qOwn 3 (gLst gNil)) (qSeq (qSet 4 (gCallF 1 m__law_all_ends (gCons (gVar 0) gNil))) (qSeq (qFor (gItems (gLst (gCons (gC (.str "ride")) (gCons (gC (.str "round")) gNil)))) (sName 5) (qFor (gItems (gVar 4)) (sName 6) (qIf (gAnd (gB (gOR dNotIn (gBin dIx (gVar 6) (gC (.int 0))) 3)) (gOr (gB (gBin dEq (gVar 5) (gC (.str "round")))) (gB (gBin dNotInT (gVar 6) (gVar 1))))) (qSeq (qOwn 7 (gLst (gCons (gVar 6) gNil))) (qSeq (gWhile (gAnd (gB (gBin dInT (gCallF 1 m__law_other (gCons (gIxO 7 (gUn dNeg (gC (.int 1)))) gNil)) (gVar 1))) (gB (gBin dNe (gDK dIxT (gVar 1) (gCallF 1 m__law_other (gCons (gIxO 7 (gUn dNeg (gC (.int 1)))) gNil))) (gVar 6)))) (qDrop (gApp 7 (gDK dIxT (gVar 1) (gCallF 1 m__law_other (gCons (gIxO 7 (gUn dNeg (gC (.int 1)))) gNil))))) 100000) (qSeq (qDrop (gExt 3 (gLc (gItems (gVar 7)) (sName 8) gYes (gBin dIx (gVar 8) (gC (.int 0))) [8]))) (qDrop (gApp 2 (gTup (gCons (gVar 5) (gCons (gVar 7) gNil)))))))) qNx))) (qRet (gVar 2))))))
def m__law_pieces := mF 9 g__law_pieces
def g__law_partners : Sx → Option Out :=
  (qSeq (qDictT0 3) (qSeq (qFor (gRng1 (gCons (gBin dIx (gVar 1) (gC (.int 0))) gNil)) (sName 4) (qSeq (qOwn 5 (gLc (gItems (gCallF 1 m__law_all_ends (gCons (gVar 1) gNil))) (sTup 2 (sCons (sName 9) (sCons (sName 10) sNil))) (gB (gBin dEq (gBin dIx (gBin dIx (gBin dIx (gVar 1) (gC (.int 1))) (gVar 9)) (gVar 10)) (gVar 4))) (gTup (gCons (gVar 9) (gCons (gVar 10) gNil))) [9, 10])) (gWhile (gB (gOL dNe 5 (gLst gNil))) (qSeq (qSet 6 (gPopAt 5 (gIO 0 1 m__law_draw_k15 (gCons (gLenO 5) gNil)))) (qSeq (qSet 7 (gViewN (gLc (gItems (gVar 5)) (sName 8) (gB (gBin dNe (gBin dIx (gBin dIx (gBin dIx (gVar 1) (gC (.int 1))) (gBin dIx (gVar 8) (gC (.int 0)))) (gC (.int 2))) (gBin dIx (gBin dIx (gBin dIx (gVar 1) (gC (.int 1))) (gBin dIx (gVar 6) (gC (.int 0)))) (gC (.int 2))))) (gVar 8) [8]))) (qIf (gAnd (gB (gBin dNe (gVar 7) (gLst gNil))) (gB (gBin dGt (gIO 0 1 m__law_draw_k15 (gCons (gVar 2) gNil)) (gC (.int 0))))) (qSeq (qSet 8 (gBin dIx (gVar 7) (gIO 0 1 m__law_draw_k15 (gCons (gCall dLen (gCons (gVar 7) gNil)) gNil)))) (qSeq (qDrop (gRem 5 (gVar 8))) (qSeq (qAsg (sIxT 3 (gVar 6)) (gVar 8)) (qAsg (sIxT 3 (gVar 8)) (gVar 6))))) qNx))) 100000))) (qRet (gFrzT 3))))
def m__law_partners := mIO 11 g__law_partners
def g__law_otherwise : Sx → Option Out :=
  (qSeq (qOwn 3 (gCall dList (gCons (gVar 2) gNil))) (qSeq (qSet 4 (gIO 0 1 m__law_draw_k15 (gCons (gLenO 3) gNil))) (qSeq (qAsg (sTup 2 (sCons (sName 5) (sCons (sName 6) sNil))) (gIxO 3 (gVar 4))) (qSeq (qSet 7 (gIO 0 1 m__law_draw_k15 (gCons (gCall dLen (gCons (gVar 6) gNil)) gNil))) (qSeq (qSet 8 (gIO 0 1 m__law_draw_k15 (gCons (gC (.int 8)) gNil))) (qSeq (qIf (gB (gBin dEq (gVar 8) (gC (.int 0)))) (qDrop (gPopAt 3 (gVar 4))) qNx) (qSeq (qIf (gB (gBin dEq (gVar 8) (gC (.int 1)))) (qDrop (gApp 3 (gIxO 3 (gVar 4)))) qNx) (qSeq (qIf (gB (gBin dEq (gVar 8) (gC (.int 2)))) (qSetO 3 (gVar 4) (gTup (gCons (gBin dIx (gLst (gCons (gC (.str "ride")) (gCons (gC (.str "round")) gNil))) (gCall dInt (gCons (gBin dEq (gVar 5) (gC (.str "ride"))) gNil))) (gCons (gVar 6) gNil)))) qNx) (qSeq (qIf (gAnd (gB (gBin dEq (gVar 8) (gC (.int 3)))) (gB (gBin dGt (gVar 7) (gC (.int 0))))) (qAsg (sSlO 3 (gSo (gVar 4)) (gSo (gBin dAdd (gVar 4) (gC (.int 1))))) (gLst (gCons (gTup (gCons (gC (.str "ride")) (gCons (gSl (gVar 6) gNo (gSo (gVar 7))) gNil))) (gCons (gTup (gCons (gC (.str "ride")) (gCons (gSl (gVar 6) (gSo (gVar 7)) gNo) gNil))) gNil)))) qNx) (qSeq (qIf (gB (gBin dEq (gVar 8) (gC (.int 4)))) (qSeq (qSet 9 (gIO 0 1 m__law_draw_k15 (gCons (gLenO 3) gNil))) (qSeq (qSetO 3 (gVar 4) (gTup (gCons (gVar 5) (gCons (gBin dAdd (gVar 6) (gBin dIx (gIxO 3 (gVar 9)) (gC (.int 1)))) gNil)))) (qOwn 3 (gRep dAdd (gSlO 3 gNo (gSo (gVar 9))) (gSlO 3 (gSo (gBin dAdd (gVar 9) (gC (.int 1)))) gNo))))) qNx) (qSeq (qIf (gB (gBin dEq (gVar 8) (gC (.int 5)))) (qSetO 3 (gVar 4) (gTup (gCons (gVar 5) (gCons (gLc (gItems (gUn dRevL (gVar 6))) (sName 10) gYes (gCallF 1 m__law_other (gCons (gVar 10) gNil)) [10]) gNil)))) qNx) (qSeq (qIf (gB (gBin dEq (gVar 8) (gC (.int 6)))) (qSetO 3 (gVar 4) (gTup (gCons (gVar 5) (gCons (gBin dAdd (gSl (gVar 6) (gSo (gVar 7)) gNo) (gSl (gVar 6) gNo (gSo (gVar 7)))) gNil)))) qNx) (qSeq (qIf (gB (gBin dEq (gVar 8) (gC (.int 7)))) (qSetO 3 (gVar 4) (gTup (gCons (gVar 5) (gCons (gIO 0 2 m__law_bent_k15 (gCons (gVar 1) (gCons (gVar 6) gNil))) gNil)))) qNx) (qRet (gVar 3)))))))))))))))
def m__law_otherwise := mIO 11 g__law_otherwise
def g__law_lines_of : Sx → Option Out :=
  (qSeq (qOwn 1 (gLst gNil)) (qSeq (qFor (gItems (gVar 0)) (sTup 2 (sCons (sName 2) (sCons (sName 3) sNil))) (qDrop (gExt 1 (gLc (gItems (gVar 3)) (sName 4) gYes (gBin dIx (gVar 4) (gC (.int 0))) [4])))) (qRet (gCall dSorted (gCons (gVar 1) gNil)))))
def m__law_lines_of := mF 5 g__law_lines_of
def g__law_due : Sx → Option Out :=
  (qSeq (qFor (gItems (gVar 1)) (sTup 2 (sCons (sName 2) (sCons (sName 3) sNil))) (qIf (gNot (gIfT (gB (gBin dEq (gVar 2) (gC (.str "ride")))) (gB (gCallF 2 m__law_is_ride (gCons (gVar 0) (gCons (gVar 3) gNil)))) (gB (gCallF 2 m__law_is_round (gCons (gVar 0) (gCons (gVar 3) gNil)))))) (qRet (gC (.bool false))) qNx)) (qRet (gBin dEq (gCallF 1 m__law_lines_of (gCons (gVar 1) gNil)) (gListRng1 (gCall dLen (gCons (gBin dIx (gVar 0) (gC (.int 1))) gNil))))))
def m__law_due := mF 4 g__law_due
def g_is_piece : Sx → Option Out :=
  (qSeq (qIf (gOr (gNot (gB (gCallF 2 m_is_row (gCons (gVar 1) (gCons (gC (.int 2)) gNil))))) (gNot (gB (gIsi "str" (gBin dIx (gVar 1) (gC (.int 0))))))) (qRet (gC (.bool false))) qNx) (qRet (gOrV (gAndV (gBin dEq (gBin dIx (gVar 1) (gC (.int 0))) (gC (.str "ride"))) (gCallF 2 m_ride_is (gCons (gVar 0) (gCons (gBin dIx (gVar 1) (gC (.int 1))) gNil)))) (gAndV (gBin dEq (gBin dIx (gVar 1) (gC (.int 0))) (gC (.str "round"))) (gCallF 2 m_round_is (gCons (gVar 0) (gCons (gBin dIx (gVar 1) (gC (.int 1))) gNil)))))))
def m_is_piece := mF 2 g_is_piece
def g_riding_is : Sx → Option Out :=
  (qSeq (qIf (gOr (gNot (gB (gIsi2 "list" "tuple" (gVar 1)))) (gNot (gB (gCall dAll (gCons (gLc (gItems (gVar 1)) (sName 2) gYes (gCallF 2 m_is_piece (gCons (gVar 0) (gCons (gVar 2) gNil))) [2]) gNil))))) (qRet (gC (.bool false))) qNx) (qRet (gBin dEq (gCall dSorted (gCons (gLc2 (gItems (gVar 1)) (sSeq 2 (sCons (sName 3) (sCons (sName 4) sNil))) gYes (gItems (gVar 4)) (sName 5) gYes (gBin dIx (gVar 5) (gC (.int 0))) [3, 4, 5] [5]) gNil)) (gListRng1 (gCall dLen (gCons (gBin dIx (gVar 0) (gC (.int 1))) gNil))))))
def m_riding_is := mF 6 g_riding_is
end Lw

set_option maxHeartbeats 4000000
namespace Fu
open PySem
/-! ### comprehensions over typed items -/
theorem turns_typed {α : Type} {gg : D → Sx → Option Sx} {gt : M Bool} {ge : M D} {vs : List Nat} {b : α → Bool} {enc f : α → D} {w : List (Option R)} {os : List (Option Cell)} :
    ∀ (xs : List α) (sl : List (Option R)), wipeS sl vs = w → (∀ x ∈ xs, ∃ sl1, gg (enc x) ⟨w, os⟩ = some ⟨sl1, os⟩ ∧ wipeS sl1 vs = w ∧ gt ⟨sl1, os⟩ = some (b x, ⟨sl1, os⟩) ∧ (b x = true → ge ⟨sl1, os⟩ = some (f x, ⟨sl1, os⟩))) →
      ∃ sl', wipeS sl' vs = w ∧ gTurns gg gt ge vs (xs.map enc) ⟨sl, os⟩ = some ((xs.filter b).map f, ⟨sl', os⟩)
  | [], sl, e, _ => ⟨sl, e, rfl⟩
  | x :: xs, sl, e, h => by
    obtain ⟨sl1, h1, h2, h3, h4⟩ := h x List.mem_cons_self
    obtain ⟨sl', e', ih⟩ := turns_typed xs sl1 h2 fun y hy => h y (List.mem_cons_of_mem _ hy)
    refine ⟨sl', e', ?_⟩
    rw [List.map_cons, gTurns]
    simp only [e, h1, h3, Option.bind_some]
    cases hb : b x with
    | true => simp [h4 hb, ih, hb]
    | false => simp [ih, hb]
theorem ev_lcX {α : Type} {S : Sx} {Q : D → Sx → Prop} {gi : M (List D)} {gg : D → Sx → Option Sx} {gt : M Bool} {ge : M D} {vs : List Nat} {xs : List α} {enc : α → D} {b : α → Bool} {g : α → D}
    (h : Ev (gi S) fun ds S1 => ds = xs.map enc ∧ (∀ x ∈ xs, Es (gg (enc x) ⟨wipeS S1.sl vs, S1.os⟩) fun S2 => wipeS S2.sl vs = wipeS S1.sl vs ∧ S2.os = S1.os ∧ Ev (gt S2) fun c S3 => S3 = S2 ∧ c = b x ∧ (b x = true → Ev (ge S2) fun e S4 => e = g x ∧ S4 = S2)) ∧ Q (.list ((xs.filter b).map g)) S1) : Ev (gLc gi gg gt ge vs S) Q := by
  obtain ⟨ds, ⟨sl1, os1⟩, e1, rfl, h1, q⟩ := h
  obtain ⟨sl', e', ht⟩ := turns_typed (gg := gg) (gt := gt) (ge := ge) (b := b) (enc := enc) (f := g) xs sl1 rfl fun d hd => by
    obtain ⟨⟨sl2, os2⟩, e2, e3, e4, c, S3, e5, e6, e7, e8⟩ := h1 d hd
    cases e4
    subst e7 e6
    exact ⟨sl2, e2, e3, e5, fun hb => (e8 hb).eq⟩
  refine ⟨_, _, ?_, q⟩
  unfold gLc
  rw [e1]
  simp only [Option.bind_some, ht, backS_same e']
theorem ev_mapX {α : Type} {S : Sx} {Q : D → Sx → Prop} {gi : M (List D)} {gg : D → Sx → Option Sx} {ge : M D} {vs : List Nat} {xs : List α} {enc : α → D} {g : α → D}
    (h : Ev (gi S) fun ds S1 => ds = xs.map enc ∧ (∀ x ∈ xs, Es (gg (enc x) ⟨wipeS S1.sl vs, S1.os⟩) fun S2 => wipeS S2.sl vs = wipeS S1.sl vs ∧ S2.os = S1.os ∧ Ev (ge S2) fun e S4 => e = g x ∧ S4 = S2) ∧ Q (.list (xs.map g)) S1) : Ev (gLc gi gg gYes ge vs S) Q := by
  refine ev_lcX (xs := xs) (enc := enc) (b := fun _ => true) (g := g) ?_
  refine h.mono fun ds S1 h => ⟨h.1, fun d hd => ?_, by rw [List.filter_eq_self.mpr fun _ _ => rfl]; exact h.2.2⟩
  obtain ⟨S2, e2, e3, e4, e5⟩ := h.2.1 d hd
  exact ⟨S2, e2, e3, e4, ev_yes ⟨rfl, rfl, fun _ => e5⟩⟩
/-- two clauses, typed -/
theorem turns2_typed {α β : Type} {gg : D → Sx → Option Sx} {gt : M Bool} {gi1 : M (List D)} {gg1 : D → Sx → Option Sx} {gt1 : M Bool} {ge : M D} {vs vs1 : List Nat} {b : α → Bool} {enc : α → D} {es : α → List β} {enc1 : α → β → D} {b1 : α → β → Bool} {f : α → β → D} {w : List (Option R)} {os : List (Option Cell)} (hv : ∀ v ∈ vs1, v ∈ vs) :
    ∀ (xs : List α) (sl : List (Option R)), wipeS sl vs = w → (∀ d ∈ xs, ∃ sl1, gg (enc d) ⟨w, os⟩ = some ⟨sl1, os⟩ ∧ wipeS sl1 vs = w ∧ gt ⟨sl1, os⟩ = some (b d, ⟨sl1, os⟩) ∧ (b d = true → gi1 ⟨sl1, os⟩ = some ((es d).map (enc1 d), ⟨sl1, os⟩) ∧
        ∀ e ∈ es d, ∃ sl2, gg1 (enc1 d e) ⟨wipeS sl1 vs1, os⟩ = some ⟨sl2, os⟩ ∧ wipeS sl2 vs1 = wipeS sl1 vs1 ∧ gt1 ⟨sl2, os⟩ = some (b1 d e, ⟨sl2, os⟩) ∧ (b1 d e = true → ge ⟨sl2, os⟩ = some (f d e, ⟨sl2, os⟩)))) →
      ∃ sl', wipeS sl' vs = w ∧ gTurns2 gg gt gi1 gg1 gt1 ge vs vs1 (xs.map enc) ⟨sl, os⟩ = some ((xs.filter b).flatMap (fun d => ((es d).filter (b1 d)).map (f d)), ⟨sl', os⟩)
  | [], sl, e, _ => ⟨sl, e, rfl⟩
  | d :: ds, sl, e, h => by
    obtain ⟨sl1, h1, h2, h3, h4⟩ := h d List.mem_cons_self
    have hr : ∀ d ∈ ds, _ := fun x hx => h x (List.mem_cons_of_mem _ hx)
    cases hb : b d with
    | true =>
      obtain ⟨h5, h6⟩ := h4 hb
      obtain ⟨sl3, e3, h7⟩ := turns_typed (enc := enc1 d) (es d) sl1 rfl h6
      have e4 : wipeS sl3 vs = w := by rw [← wipe_sub hv, e3, wipe_sub hv, h2]
      obtain ⟨sl', e', ih⟩ := turns2_typed hv ds sl3 e4 hr
      refine ⟨sl', e', ?_⟩
      rw [List.map_cons, gTurns2]
      simp only [e, h1, h3, Option.bind_some, hb, if_true, h5, h7, ih, List.filter_cons_of_pos hb, List.flatMap_cons]
    | false =>
      obtain ⟨sl', e', ih⟩ := turns2_typed hv ds sl1 h2 hr
      refine ⟨sl', e', ?_⟩
      rw [List.map_cons, gTurns2]
      simp [e, h1, h3, hb, ih]
theorem ev_lc2X {α β : Type} {S : Sx} {Q : D → Sx → Prop} {gi : M (List D)} {gg : D → Sx → Option Sx} {gt : M Bool} {gi1 : M (List D)} {gg1 : D → Sx → Option Sx} {gt1 : M Bool} {ge : M D} {vs vs1 : List Nat} {xs : List α} {enc : α → D} {b : α → Bool} {es : α → List β} {enc1 : α → β → D} {b1 : α → β → Bool} {f : α → β → D} (hv : ∀ v ∈ vs1, v ∈ vs)
    (h : Ev (gi S) fun ds S1 => ds = xs.map enc ∧ (∀ d ∈ xs, Es (gg (enc d) ⟨wipeS S1.sl vs, S1.os⟩) fun S2 => wipeS S2.sl vs = wipeS S1.sl vs ∧ S2.os = S1.os ∧ Ev (gt S2) fun c S3 => S3 = S2 ∧ c = b d ∧ (b d = true → Ev (gi1 S2) fun ys S4 => (ys = (es d).map (enc1 d) ∧ S4 = S2) ∧
      ∀ e ∈ es d, Es (gg1 (enc1 d e) ⟨wipeS S2.sl vs1, S2.os⟩) fun S5 => wipeS S5.sl vs1 = wipeS S2.sl vs1 ∧ S5.os = S2.os ∧ Ev (gt1 S5) fun c S6 => S6 = S5 ∧ c = b1 d e ∧ (b1 d e = true → Ev (ge S5) fun z S7 => z = f d e ∧ S7 = S5))) ∧
      ((xs.filter b).flatMap (fun d => ((es d).filter (b1 d)).map (f d))).length ≤ 16777216 ∧ Q (.list ((xs.filter b).flatMap (fun d => ((es d).filter (b1 d)).map (f d)))) S1) : Ev (gLc2 gi gg gt gi1 gg1 gt1 ge vs vs1 S) Q := by
  obtain ⟨ds, ⟨sl1, os1⟩, e1, rfl, h1, l, q⟩ := h
  obtain ⟨sl', e', ht⟩ := turns2_typed (gg := gg) (gt := gt) (gi1 := gi1) (gg1 := gg1) (gt1 := gt1) (ge := ge) (b := b) (enc := enc) (es := es) (enc1 := enc1) (b1 := b1) (f := f) hv xs sl1 rfl fun d hd => by
    obtain ⟨⟨sl2, os2⟩, e2, e3, e4, c, S3, e5, e6, e7, e8⟩ := h1 d hd
    cases e4
    subst e7 e6
    refine ⟨sl2, e2, e3, e5, fun hb => ?_⟩
    obtain ⟨ys, S4, e9, ⟨rfl, rfl⟩, e10⟩ := e8 hb
    refine ⟨e9, fun e he => ?_⟩
    obtain ⟨⟨sl5, os5⟩, f2, f3, f4, c, S6, f5, f6, f7, f8⟩ := e10 e he
    cases f4
    subst f7 f6
    exact ⟨sl5, f2, f3, f5, fun hb => (f8 hb).eq⟩
  refine ⟨_, _, ?_, q⟩
  unfold gLc2
  rw [e1]
  simp only [Option.bind_some, ht, line_eq, if_pos l, backS_same e']
/-- loops over typed items -/
theorem eo_loopX {α : Type} {S : Sx} {Z : Out → Prop} {gg : D → Sx → Option Sx} {body : Sx → Option Out} {xs : List α} {enc : α → D} (I : Nat → Sx → Prop) (h0 : I 0 S) (hs : ∀ i x S, xs[i]? = some x → I i S → Es (gg (enc x) S) fun S1 => Eo (body S1) fun o => ∃ S2, o = .nx S2 ∧ I (i + 1) S2) (hz : ∀ S', I xs.length S' → Z (.nx S')) : Eo (gLoop gg body (xs.map enc) S) Z := by
  refine eo_loop I h0 (fun i d S hd hI => ?_) fun S' h => hz S' (by simpa using h)
  rw [List.getElem?_map] at hd
  obtain ⟨x, hx, rfl⟩ := Option.map_eq_some_iff.mp hd
  exact hs i x S hx hI
/-- .. that may end within: J tells of what ends it -/
theorem loop_end {gg : D → Sx → Option Sx} {body : Sx → Option Out} {Z : Out → Prop} (I : Nat → Sx → Prop) : ∀ (ds : List D) (n : Nat) (S : Sx), I n S → (∀ i d S, ds[i]? = some d → I (n + i) S → Es (gg d S) fun S1 => Eo (body S1) fun o => (∃ S2, (o = .nx S2 ∨ o = .ct S2) ∧ I (n + i + 1) S2) ∨ (∃ S2, o = .bk S2 ∧ Z (.nx S2)) ∨ (∃ d S2, o = .rt d S2 ∧ Z (.rt d S2)) ∨ (∃ j S2, o = .ro j S2 ∧ Z (.ro j S2))) →
    (∀ S', I (n + ds.length) S' → Z (.nx S')) → Eo (gLoop gg body ds S) Z
  | [], n, S, h0, _, hz => ⟨_, rfl, hz S h0⟩
  | d :: ds, n, S, h0, hs, hz => by
    obtain ⟨S1, h1, o, h2, h3⟩ := hs 0 d S rfl h0
    have go : ∀ S2, I (n + 0 + 1) S2 → Eo (gLoop gg body ds S2) Z := fun S2 hI => loop_end I ds (n + 1) S2 hI (fun i e T he hI => by
      have := hs (i + 1) e T (by simpa using he) (by rwa [show n + (i + 1) = n + 1 + i by omega])
      rwa [show n + (i + 1) + 1 = n + 1 + i + 1 by omega] at this) fun S' h => hz S' (by rwa [show n + (d :: ds).length = n + 1 + ds.length by simp; omega])
    rcases h3 with ⟨S2, e, hI⟩ | ⟨S2, rfl, hZ⟩ | ⟨x, S2, rfl, hZ⟩ | ⟨j, S2, rfl, hZ⟩
    · obtain ⟨o2, h4, q⟩ := go S2 hI
      refine ⟨o2, ?_, q⟩
      rw [gLoop]
      rcases e with rfl | rfl <;> simp only [h1, h2, Option.bind_some, h4]
    · exact ⟨_, by rw [gLoop]; simp only [h1, h2, Option.bind_some], hZ⟩
    · exact ⟨_, by rw [gLoop]; simp only [h1, h2, Option.bind_some], hZ⟩
    · exact ⟨_, by rw [gLoop]; simp only [h1, h2, Option.bind_some], hZ⟩
theorem eo_loopE {α : Type} {S : Sx} {Z : Out → Prop} {gg : D → Sx → Option Sx} {body : Sx → Option Out} {xs : List α} {enc : α → D} (I : Nat → Sx → Prop) (h0 : I 0 S) (hs : ∀ i x S, xs[i]? = some x → I i S → Es (gg (enc x) S) fun S1 => Eo (body S1) fun o => (∃ S2, (o = .nx S2 ∨ o = .ct S2) ∧ I (i + 1) S2) ∨ (∃ S2, o = .bk S2 ∧ Z (.nx S2)) ∨ (∃ d S2, o = .rt d S2 ∧ Z (.rt d S2)) ∨ (∃ j S2, o = .ro j S2 ∧ Z (.ro j S2)))
    (hz : ∀ S', I xs.length S' → Z (.nx S')) : Eo (gLoop gg body (xs.map enc) S) Z := by
  refine loop_end I _ 0 S h0 (fun i d S hd hI => ?_) fun S' h => hz S' (by simpa using h)
  rw [List.getElem?_map] at hd
  obtain ⟨x, hx, rfl⟩ := Option.map_eq_some_iff.mp hd
  rw [Nat.zero_add] at hI ⊢
  exact hs i x S hx hI
theorem rng_map (lo : Int) (n : Nat) : rng lo n = (List.range n).map fun i : Nat => .int (lo + (i : Int)) := rfl
theorem rng0 (n : Nat) : rng 0 n = (List.range n).map fun i : Nat => .int (i : Int) := by
  unfold rng; simp

/-! ### lists or tuples -/
def seqOf : D → Option (List D)
  | .list xs => some xs
  | .tuple xs => some xs
  | _ => none
def Sq (d : D) (xs : List D) : Prop := d = .list xs ∨ d = .tuple xs
theorem sq_l (xs : List D) : Sq (.list xs) xs := .inl rfl
theorem sq_t (xs : List D) : Sq (.tuple xs) xs := .inr rfl
theorem sq_of {d : D} {xs : List D} (h : seqOf d = some xs) : Sq d xs := by
  cases d <;> simp [seqOf] at h
  · exact .inl (by rw [h])
  · exact .inr (by rw [h])
theorem Sq.of {d : D} {xs : List D} (h : Sq d xs) : seqOf d = some xs := by rcases h with rfl | rfl <;> rfl
theorem isi_seq (d : D) : (isT "list" d || isT "tuple" d) = (seqOf d).isSome := by cases d <;> rfl
section
variable {Q : D → Prop} {d x : D} {xs : List D} {i : Int}
theorem ed_ixQ (s : Sq d xs) (h0 : 0 ≤ i) (e : xs[i.toNat]? = some x) (h : Q x) : Ed (dIx d (.int i)) Q := by
  rcases s with rfl | rfl
  · exact ed_ixL h0 e h
  · exact ed_ixT h0 e h
theorem ed_lenQ (s : Sq d xs) (h : Q (.int xs.length)) : Ed (dLen [d]) Q := by rcases s with rfl | rfl <;> exact ⟨_, rfl, h⟩
theorem ed_itQ {Q : List D → Prop} (s : Sq d xs) (h : Q xs) : Ed (itemsOf d) Q := by rcases s with rfl | rfl <;> exact ⟨_, rfl, h⟩
end
theorem all_mapX {α : Type} (f : α → Bool) (xs : List α) {Q : D → Prop} (h : Q (.bool (xs.all f))) : Ed (dAll [.list (xs.map fun a => .bool (f a))]) Q := ⟨_, all_map f xs, h⟩
theorem any_map {α : Type} (f : α → Bool) (xs : List α) {Q : D → Prop} (h : Q (.bool (xs.any f))) : Ed (dAny [.list (xs.map fun a => .bool (f a))]) Q := ⟨_, by
  simp only [dAny, allBools_fn, Option.bind_some]; rw [List.any_map]; rfl, h⟩
/-! ### looks -/
theorem ev_viewN {S : Sx} {g : M D} {Q : D → Sx → Prop} (h : Ev (g (sealAll S)) fun d _ => ∃ ds, d = .list ds ∧ hardDs ds = true ∧ Q (.list ds) S) : Ev (gViewN g S) Q := by
  obtain ⟨d, S1, e, ds, rfl, hz, q⟩ := h
  exact ⟨_, S, by simp only [gViewN, e, Option.bind_some, hz, if_true], q⟩
theorem sealS_none (os : List (Option Cell)) : sealS os none = none := rfl
theorem sealS_dat (os : List (Option Cell)) (d : D) : sealS os (some (.dat d)) = some (.dat d) := rfl
theorem sealS_scr (os : List (Option Cell)) (d : List Int) : sealS os (some (.scr d)) = some (.scr d) := rfl
def sealC (os : List (Option Cell)) : Option (Option Cell) → Option R
  | some (some (.lst ds)) => some (.dat (.list ds))
  | some (some (.lR rs)) => ((mapO (snapR os 7) rs).map .list).map .dat
  | _ => none
theorem sealS_own (os : List (Option Cell)) (j : Nat) : sealS os (some (.own j)) = sealC os os[j]? := by
  simp only [sealS, snapR]
  generalize os[j]? = c
  rcases c with _ | _ | c
  · rfl
  · rfl
  · cases c <;> rfl
theorem sealC_lst (os : List (Option Cell)) (ds : List D) : sealC os (some (some (.lst ds))) = some (.dat (.list ds)) := rfl
theorem sealAll_mk {sl sl' : List (Option R)} {os os' : List (Option Cell)} (h : sl.map (sealS os) = sl') (h2 : os.map (fun _ => none) = os') : sealAll ⟨sl, os⟩ = ⟨sl', os'⟩ := by unfold sealAll; rw [h, h2]
theorem hards_iff {ds : List D} : hardDs ds = true ↔ ∀ d ∈ ds, hardD d = true := by
  induction ds with
  | nil => simp [hardDs]
  | cons d ds ih => rw [hardDs, Bool.and_eq_true, ih]; simp
theorem hards_map {α : Type} {f : α → D} {xs : List α} (h : ∀ x, hardD (f x) = true) : hardDs (xs.map f) = true := hards_iff.mpr fun d hd => by obtain ⟨n, _, rfl⟩ := List.mem_map.mp hd; exact h n
end Fu

set_option maxHeartbeats 4000000
namespace Lw
open PySem Fu
local macro_rules | `(tactic| walk_at "e1") => `(tactic| first
  | with_reducible refine eo_seq ?_ | (with_reducible refine then_nx' ?_; refine ⟨?_, ?_, ?_⟩; rotate_left; · (try dsimp only [List.set, List.length_cons, List.length_nil, List.cons_append, List.nil_append, Nat.zero_add, Nat.reduceAdd]); exact rfl) | with_reducible refine then_rt ?_ | with_reducible refine eo_if ?_ | with_reducible refine eo_ret ?_ | with_reducible refine eo_set ?_ | with_reducible refine eo_asg ?_ | with_reducible refine eo_drop ?_ | with_reducible refine eo_nx ?_ | with_reducible refine eo_par ?_ | with_reducible refine eo_own ?_ | with_reducible refine eo_retN ?_ | with_reducible refine eo_for ?_ | with_reducible refine eo_retO ?_
  | with_reducible refine ev_c ?_ | (with_reducible refine ev_var ?_; refine ⟨_, rfl, ?_⟩) | with_reducible refine ev_bin ?_ | with_reducible refine ev_un ?_ | with_reducible refine ev_nil ?_ | with_reducible refine ev_cons ?_
  | with_reducible refine ev_tup ?_ | with_reducible refine ev_lst ?_ | with_reducible refine ev_call ?_ | with_reducible refine ev_callF ?_ | with_reducible refine ev_isi ?_ | with_reducible refine ev_isi2 ?_ | with_reducible refine ev_andV ?_ | with_reducible refine ev_orV ?_ | with_reducible refine ev_notV ?_
  | with_reducible refine ev_B ?_ | with_reducible refine ev_and ?_ | with_reducible refine ev_or ?_ | with_reducible refine ev_not ?_ | with_reducible refine ev_yes ?_ | with_reducible refine ev_if ?_ | with_reducible refine ev_no ?_ | with_reducible refine ev_so ?_ | with_reducible refine ev_sl ?_ | with_reducible refine ev_items ?_
  | (with_reducible refine ev_ixO ?_; refine ⟨_, _, rfl, rfl, ?_⟩) | (with_reducible refine ev_varO ?_; refine ⟨_, _, rfl, rfl, ?_⟩) | (with_reducible refine ev_lenO ?_; refine ⟨_, _, rfl, rfl, ?_⟩) | (with_reducible refine ev_scrSl ?_; refine ⟨_, rfl, ?_⟩) | (with_reducible refine ev_scrLen ?_; refine ⟨_, rfl, ?_⟩) | (with_reducible refine ev_callScr ?_; refine ⟨_, rfl, ?_⟩) | (with_reducible refine ev_OL ?_; refine ⟨_, _, rfl, rfl, ?_⟩) | with_reducible refine ev_OR ?_ | with_reducible refine ev_rep ?_ | with_reducible refine ev_listRng1 ?_ | with_reducible refine eo_setO ?_
  | with_reducible refine es_name ?_ | with_reducible refine es_tup2 ?_ | with_reducible refine es_tup3 ?_
  | with_reducible refine ed_addI ?_ | with_reducible refine ed_subI ?_ | with_reducible refine ed_cmp ?_ | with_reducible refine ed_eqI ?_ | with_reducible refine ed_neI ?_ | with_reducible refine ed_slT ?_ | with_reducible refine ed_slL ?_ | with_reducible refine ed_lenT ?_ | with_reducible refine ed_lenL ?_ | with_reducible refine ed_lenS ?_ | with_reducible refine ed_inS ?_ | with_reducible refine ed_itT ?_ | with_reducible refine ed_itL ?_ | with_reducible refine ed_tupL ?_ | with_reducible refine ed_tupT ?_ | with_reducible refine ed_listL ?_ | with_reducible refine ed_listT ?_ | with_reducible refine ed_neg ?_ | with_reducible refine ed_max ?_ | with_reducible refine ed_min ?_ | with_reducible refine ed_intB ?_
  | with_reducible refine ev_rng1 ?_ | with_reducible refine ev_rng2 ?_)
local macro_rules | `(tactic| walk_at "sd") => `(tactic| first | rfl | assumption | (simp only [decide_eq_true_eq, decide_eq_false_iff_not, Bool.not_eq_true', Bool.not_eq_false', Bool.and_eq_true, Bool.or_eq_true, List.length_map, List.length_cons, List.length_nil, List.length_append, List.length_range] at *; omega))
local macro_rules | `(tactic| walk_at "e2") => `(tactic| first
  | walk_at "e1" | with_reducible refine ⟨_, rfl, ?_⟩ | with_reducible refine ⟨_, _, rfl, ?_⟩
  | with_reducible refine And.intro (Eq.refl (List.length _)) ?_ | with_reducible refine And.intro (Nat.le_of_ble_eq_true (n := List.length _) rfl) ?_
  | with_reducible refine And.intro (Eq.refl (_ : Sx)) (?_ : Ed _ _)
  | ((with_reducible refine And.intro ?_ (And.intro ?_ (?_ : Ev _ _))); (· rfl); (· rfl))
  | ((with_reducible refine ed_ixT ?_ ?_ ?_); (· decide); (· rfl)) | ((with_reducible refine ed_ixL ?_ ?_ ?_); (· decide); (· rfl)) | ((with_reducible refine ed_at ?_ ?_ ?_); (· decide); (· rfl))
  | ((with_reducible refine ed_modI ?_ ?_); (· first | decide | omega))
  | with_reducible exact gives_nx | ((with_reducible refine gives_rt ?_); (· rfl)) | ((with_reducible refine And.intro ?_ ?_); (· exact rfl); (· with_reducible exact Eq.refl (_ : Sx))))
local macro_rules | `(tactic| walk_at "e") => `(tactic| repeat walk_at "e2")
/-- begin a def's spec -/
local macro_rules | `(tactic| walk_at "i") => `(tactic| simp only [initS, List.map_cons, List.map_nil, List.length_cons, List.length_nil, Nat.reduceAdd, Nat.reduceSub, List.replicate, List.cons_append, List.nil_append])
/-- a known truth decides -/
local macro_rules | `(tactic| walk_at "t") => `(tactic| first | ((with_reducible refine split_t ?_ ?_); (· walk_at "sd")) | ((with_reducible refine split_t' ?_ ?_); (· walk_at "sd")))
local macro_rules | `(tactic| walk_at "f") => `(tactic| first | ((with_reducible refine split_f ?_ ?_); (· walk_at "sd")) | ((with_reducible refine split_f' ?_ ?_); (· walk_at "sd")))
/-- all that is seen in a look -/
local macro_rules | `(tactic| walk_at "v") => `(tactic| (rw [sealAll_mk (by (simp only [List.set_cons_zero, List.set_cons_succ, List.map_cons, List.map_nil, sealS_none, sealS_dat, sealS_scr, sealS_own, List.getElem?_cons_zero, List.getElem?_cons_succ, sealC_lst]; rfl)) (by (simp only [List.set_cons_zero, List.set_cons_succ, List.map_cons, List.map_nil]; rfl))]))
/-! ### whole numbers, rows, companies, lines, ends: of anything -/
def wholeD : D → Bool
  | .int i => decide (0 ≤ i)
  | _ => false
def rowD (n : Nat) (d : D) : Bool := match seqOf d with
  | some xs => decide (xs.length = n)
  | none => false
def Let (c : Nat) : Prop := 97 ≤ c ∧ c ≤ 122
instance (c : Nat) : Decidable (Let c) := inferInstanceAs (Decidable (_ ∧ _))
theorem Let.ok {c : Nat} (h : Let c) : c < 0x110000 := by have := h.2; omega
def companyD : D → Bool
  | .str x => match x.cps.toList with
    | [c] => decide (Let c)
    | _ => false
  | _ => false
def atD (d : D) (i : Nat) : D := ((seqOf d).getD []).getD i .none
def endD (n : Nat) (d : D) : Bool := match seqOf d with
  | some [.int a, .int s] => decide (0 ≤ a) && decide (0 ≤ s) && decide (a < n) && decide (s < 2)
  | _ => false
theorem company_of {d : D} (h : companyD d = true) : ∃ c, d = ch c ∧ Let c := by
  unfold companyD at h
  split at h
  · split at h
    · rename_i x c e
      refine ⟨c, ?_, of_decide_eq_true h⟩
      unfold ch
      congr 1
      exact congrArg Str.mk (Array.toList_inj.mp (by simpa using e))
    · cases h
  · cases h
theorem x_is_whole (d : D) : m_is_whole [d] = some (.bool (wholeD d)) := by
  unfold m_is_whole; refine mF_of ?_; walk_at "i"; unfold g_is_whole
  walk_at "e"
  refine ⟨fun h1 => ?_, fun h1 => ?_⟩
  · walk_at "e"
    refine ⟨fun h2 => ?_, fun h2 => ?_⟩
    · cases d <;> simp [isT, dTy] at h1 h2
      walk_at "e"
    · cases d <;> simp [isT, dTy] at h1 h2
      walk_at "e"
  · cases d <;> simp [isT, dTy] at h1 <;> walk_at "e"
theorem x_is_row (d : D) (n : Nat) : m_is_row [d, .int n] = some (.bool (rowD n d)) := by
  unfold m_is_row; refine mF_of ?_; walk_at "i"; unfold g_is_row
  walk_at "e"
  rw [isi_seq]
  refine ⟨fun h1 => ?_, fun h1 => ?_⟩
  · obtain ⟨xs, hx⟩ := Option.isSome_iff_exists.mp h1
    walk_at "e"
    refine ed_lenQ (sq_of hx) ?_
    walk_at "e"
    unfold rowD
    rw [gives_rtI, hx]
    simp only [PyData.bool.injEq, decide_eq_decide]
    omega
  · have hx : seqOf d = none := by simpa using h1
    rw [gives_rtI]
    unfold rowD; rw [hx]
theorem letters : ("abcdefghijklmnopqrstuvwxyz" : Str).cps.toList = (List.range 26).map (97 + ·) := by decide +kernel
theorem row_of {n : Nat} {d : D} (h : rowD n d = true) : ∃ xs, Sq d xs ∧ xs.length = n := by
  unfold rowD at h
  split at h
  · rename_i xs e; exact ⟨xs, sq_of e, of_decide_eq_true h⟩
  · cases h
theorem sq_at {d : D} {xs : List D} (s : Sq d xs) (i : Nat) : atD d i = xs.getD i .none := by unfold atD; rw [s.of]; rfl
theorem filter_tt {α : Type} (l : List α) : l.filter (fun _ => true) = l := List.filter_eq_self.mpr fun _ _ => rfl
/-! ### webs -/
abbrev Ln := Int × Int × Nat
def ln (l : Ln) : D := .tuple [.int l.1, .int l.2.1, ch l.2.2]
def wb (p : Int) (ls : List Ln) : D := .tuple [.int p, .tuple (ls.map ln)]
structure LnOk (p : Int) (l : Ln) : Prop where
  a0 : 0 ≤ l.1
  a1 : l.1 < p
  b0 : 0 ≤ l.2.1
  b1 : l.2.1 < p
  c : Let l.2.2
structure WbOk (p : Int) (ls : List Ln) : Prop where
  p0 : 0 ≤ p
  all : ∀ l ∈ ls, LnOk p l
  len : ls.length ≤ 1000000
def IsLn (d : D) (l : Ln) : Prop := Sq d [.int l.1, .int l.2.1, ch l.2.2]
def Lns (d : D) (ls : List Ln) : Prop := ∃ ps : List (D × Ln), Sq d (ps.map (·.1)) ∧ ls = ps.map (·.2) ∧ ∀ q ∈ ps, IsLn q.1 q.2
def Web (d : D) (p : Int) (ls : List Ln) : Prop := ∃ L, Sq d [.int p, L] ∧ Lns L ls
theorem isLn_ln (l : Ln) : IsLn (ln l) l := sq_t _
theorem lns_of {d : D} {ls : List Ln} (s : Sq d (ls.map ln)) : Lns d ls := ⟨ls.map fun l => (ln l, l), by rw [List.map_map]; exact s, by rw [List.map_map]; exact (List.map_id _).symm, fun q hq => by
  obtain ⟨l, _, rfl⟩ := List.mem_map.mp hq
  exact isLn_ln l⟩
theorem web_wb (p : Int) (ls : List Ln) : Web (wb p ls) p ls := ⟨_, sq_t _, lns_of (sq_t _)⟩
theorem line_at {d : D} {ls : List Ln} (h : Lns d ls) {i : Nat} {l : Ln} (hl : ls[i]? = some l) : ∃ xs x, Sq d xs ∧ xs.length = ls.length ∧ xs[i]? = some x ∧ IsLn x l := by
  obtain ⟨ps, s, rfl, hp⟩ := h
  rw [List.getElem?_map] at hl
  obtain ⟨q, hq, rfl⟩ := Option.map_eq_some_iff.mp hl
  exact ⟨_, q.1, s, by simp, by rw [List.getElem?_map, hq]; rfl, hp q (List.mem_of_getElem? hq)⟩
theorem lns_len {d : D} {ls : List Ln} (h : Lns d ls) : ∃ xs, Sq d xs ∧ xs.length = ls.length := by
  obtain ⟨ps, s, rfl, hp⟩ := h
  exact ⟨_, s, by simp⟩
/-! ### ends -/
def en (e : Int × Int) : D := .tuple [.int e.1, .int e.2]
def IsEn (d : D) (e : Int × Int) : Prop := Sq d [.int e.1, .int e.2]
theorem isEn_en (e : Int × Int) : IsEn (en e) e := sq_t _
def EndOk (n : Nat) (e : Int × Int) : Prop := 0 ≤ e.1 ∧ e.1 < n ∧ 0 ≤ e.2 ∧ e.2 < 2
instance (n : Nat) (e : Int × Int) : Decidable (EndOk n e) := by unfold EndOk; infer_instance
theorem endD_of {n : Nat} {d : D} {e : Int × Int} (s : IsEn d e) : endD n d = decide (EndOk n e) := by
  unfold endD
  rw [s.of]
  refine Bool.eq_iff_iff.mpr ⟨fun h => decide_eq_true ?_, fun h => ?_⟩
  · simp only [Bool.and_eq_true, decide_eq_true_eq] at h
    exact ⟨h.1.1.1, h.1.2, h.1.1.2, h.2⟩
  · have h := of_decide_eq_true h
    simp only [Bool.and_eq_true, decide_eq_true_eq]
    exact ⟨⟨⟨h.1, h.2.2.1⟩, h.2.1⟩, h.2.2.2⟩
theorem isEn_of {n : Nat} {d : D} (h : endD n d = true) : ∃ e, IsEn d e ∧ EndOk n e := by
  unfold endD at h
  split at h
  · rename_i a s e
    have h1 := h
    simp only [Bool.and_eq_true, decide_eq_true_eq] at h1
    exact ⟨(a, s), sq_of e, h1.1.1.1, h1.1.2, h1.1.1.2, h1.2⟩
  · cases h
theorem x_is_end {w : D} {p : Int} {ls : List Ln} (hw : Web w p ls) (d : D) : m_is_end [w, d] = some (.bool (endD ls.length d)) := by
  obtain ⟨L, s, hL⟩ := hw
  obtain ⟨xs, sx, hl⟩ := lns_len hL
  unfold m_is_end; refine mF_of ?_; walk_at "i"; unfold g_is_end
  walk_at "e"
  refine Ed.of (x_is_row d 2) ?_
  walk_at "e"
  refine ⟨fun h1 => ?_, fun h1 => ?_⟩
  rotate_left
  · walk_at "t"
    walk_at "e"
    have h1 : rowD 2 d = false := by simpa using h1
    have : endD ls.length d = false := by
      unfold endD; unfold rowD at h1
      split
      · rename_i e; rw [e] at h1; simp at h1
      · rfl
    simp [this]
  have h1 : rowD 2 d = true := by simpa using h1
  obtain ⟨zs, sz, hz⟩ := row_of h1
  obtain ⟨a, b, rfl⟩ : ∃ a b, zs = [a, b] := by
    match zs, hz with
    | [a, b], _ => exact ⟨a, b, rfl⟩
  have el : endD ls.length d = (wholeD a && wholeD b && (match a, b with | .int a, .int b => decide (a < ls.length) && decide (b < 2) | _, _ => false)) := by
    unfold endD; rw [sz.of]
    cases a <;> cases b <;> simp [wholeD, Bool.and_assoc]
  rw [el]
  walk_at "e"
  refine ed_ixQ sz (by decide) rfl ?_
  walk_at "e"
  refine Ed.of (x_is_whole _) ?_
  walk_at "e"
  refine ⟨fun h2 => ?_, fun h2 => ?_⟩
  rotate_left
  · walk_at "t"
    walk_at "e"
    have h2 : wholeD a = false := by simpa using h2
    simp [h2]
  have h2 : wholeD a = true := by simpa using h2
  walk_at "e"
  refine ed_ixQ sz (by decide) rfl ?_
  walk_at "e"
  refine Ed.of (x_is_whole _) ?_
  walk_at "e"
  refine ⟨fun h3 => ?_, fun h3 => ?_⟩
  · walk_at "e"
    have h3 : wholeD b = false := by simpa using h3
    simp [h2, h3]
  have h3 : wholeD b = true := by simpa using h3
  cases a <;> simp [wholeD] at h2
  cases b <;> simp [wholeD] at h3
  walk_at "e"
  refine ed_ixQ sz (by decide) rfl ?_
  walk_at "e"
  refine ed_ixQ s (by decide) rfl ?_
  walk_at "e"
  refine ed_lenQ sx ?_
  walk_at "e"
  rw [hl]
  refine ⟨fun h4 => ?_, fun h4 => ?_⟩
  · walk_at "e"
    refine ed_ixQ sz (by decide) rfl ?_
    walk_at "e"
    simp [wholeD, h2, h3, h4]
  · walk_at "e"
    simp [h4]
def sideOf (s : Int) (l : Ln) : Int := if s = 0 then l.1 else l.2.1
def plc (ls : List Ln) (e : Int × Int) : Int := match ls[e.1.toNat]? with
  | some l => sideOf e.2 l
  | none => 0
def cmpy (ls : List Ln) (e : Int × Int) : Nat := match ls[e.1.toNat]? with
  | some l => l.2.2
  | none => 0
def far (e : Int × Int) : Int × Int := (e.1, 1 - e.2)
theorem end_line {n : Nat} {ls : List Ln} {e : Int × Int} (hn : n = ls.length) (h : EndOk n e) : ∃ l, ls[e.1.toNat]? = some l ∧ l ∈ ls := by
  have hl : e.1.toNat < ls.length := by have := h.1; have := h.2.1; omega
  exact ⟨_, List.getElem?_eq_getElem hl, List.getElem_mem hl⟩
theorem x_place_of {w : D} {p : Int} {ls : List Ln} {d : D} {e : Int × Int} (hw : Web w p ls) (s : IsEn d e) (h : EndOk ls.length e) : m_place_of [w, d] = some (.int (plc ls e)) := by
  obtain ⟨L, sw, hL⟩ := hw
  obtain ⟨l, hl, _⟩ := end_line rfl h
  obtain ⟨xs, x, sx, hxl, hx, hln⟩ := line_at hL hl
  unfold m_place_of; refine mF_of ?_; walk_at "i"; unfold g_place_of
  walk_at "e"
  refine ed_ixQ sw (by decide) rfl ?_
  walk_at "e"
  refine ed_ixQ s (by decide) rfl ?_
  walk_at "e"
  refine ed_ixQ sx h.1 hx ?_
  walk_at "e"
  refine ed_ixQ s (by decide) rfl ?_
  walk_at "e"
  have h2 : e.2 = 0 ∨ e.2 = 1 := by have := h.2.2.1; have := h.2.2.2; omega
  unfold plc; rw [hl]
  rcases h2 with h2 | h2 <;> rw [h2] <;> exact ed_ixQ hln (by decide) rfl rfl
theorem x_company_of {w : D} {p : Int} {ls : List Ln} {d : D} {e : Int × Int} (hw : Web w p ls) (s : IsEn d e) (h : EndOk ls.length e) : m_company_of [w, d] = some (ch (cmpy ls e)) := by
  obtain ⟨L, sw, hL⟩ := hw
  obtain ⟨l, hl, _⟩ := end_line rfl h
  obtain ⟨xs, x, sx, hxl, hx, hln⟩ := line_at hL hl
  unfold m_company_of; refine mF_of ?_; walk_at "i"; unfold g_company_of
  walk_at "e"
  refine ed_ixQ sw (by decide) rfl ?_
  walk_at "e"
  refine ed_ixQ s (by decide) rfl ?_
  walk_at "e"
  refine ed_ixQ sx h.1 hx ?_
  walk_at "e"
  refine ed_ixQ hln (by decide) rfl ?_
  unfold cmpy; rw [hl]; rfl
theorem cmpy_let {p : Int} {ls : List Ln} {e : Int × Int} (h : WbOk p ls) (k : EndOk ls.length e) : Let (cmpy ls e) := by
  obtain ⟨l, hl, hm⟩ := end_line rfl k
  unfold cmpy; rw [hl]
  exact (h.all _ hm).c
theorem cmpy_ok {p : Int} {ls : List Ln} {e : Int × Int} (h : WbOk p ls) (k : EndOk ls.length e) : cmpy ls e < 0x110000 := (cmpy_let h k).ok
/-! ### all ends, the ends at a place -/
def allE (n : Nat) : List (Int × Int) := (List.range n).flatMap fun i : Nat => [((i : Int), 0), ((i : Int), 1)]
theorem allE_len (n : Nat) : (allE n).length = 2 * n := by
  unfold allE
  rw [List.length_flatMap]
  induction n with
  | zero => rfl
  | succ n ih => 
    rw [List.range_succ, List.map_append, List.sum_append, ih]
    simp
    omega
theorem allE_mem {n : Nat} {e : Int × Int} : e ∈ allE n ↔ EndOk n e := by
  unfold allE EndOk
  rw [List.mem_flatMap]
  obtain ⟨a, b⟩ := e
  constructor
  · rintro ⟨i, hi, h⟩
    rw [List.mem_range] at hi
    simp only [List.mem_cons, Prod.mk.injEq, List.not_mem_nil, or_false] at h
    rcases h with ⟨rfl, rfl⟩ | ⟨rfl, rfl⟩ <;> simp only <;> omega
  · rintro ⟨h0, h1, h2, h3⟩
    simp only at h0 h1 h2 h3
    refine ⟨a.toNat, List.mem_range.mpr (by omega), ?_⟩
    simp only [List.mem_cons, Prod.mk.injEq, List.not_mem_nil, or_false, Int.toNat_of_nonneg h0, true_and]
    omega
def ends (ls : List Ln) (q : Int) : List (Int × Int) := (allE ls.length).filter fun e => decide (plc ls e = q)
end Lw

set_option maxHeartbeats 4000000
namespace Lw
open PySem Fu
local macro_rules | `(tactic| walk_at "e1") => `(tactic| first
  | with_reducible refine eo_seq ?_ | (with_reducible refine then_nx' ?_; refine ⟨?_, ?_, ?_⟩; rotate_left; · (try dsimp only [List.set, List.length_cons, List.length_nil, List.cons_append, List.nil_append, Nat.zero_add, Nat.reduceAdd]); exact rfl) | with_reducible refine then_rt ?_ | with_reducible refine eo_if ?_ | with_reducible refine eo_ret ?_ | with_reducible refine eo_set ?_ | with_reducible refine eo_asg ?_ | with_reducible refine eo_drop ?_ | with_reducible refine eo_nx ?_ | with_reducible refine eo_par ?_ | with_reducible refine eo_own ?_ | with_reducible refine eo_retN ?_ | with_reducible refine eo_for ?_ | with_reducible refine eo_retO ?_
  | with_reducible refine ev_c ?_ | (with_reducible refine ev_var ?_; refine ⟨_, rfl, ?_⟩) | with_reducible refine ev_bin ?_ | with_reducible refine ev_un ?_ | with_reducible refine ev_nil ?_ | with_reducible refine ev_cons ?_
  | with_reducible refine ev_tup ?_ | with_reducible refine ev_lst ?_ | with_reducible refine ev_call ?_ | with_reducible refine ev_callF ?_ | with_reducible refine ev_isi ?_ | with_reducible refine ev_isi2 ?_ | with_reducible refine ev_andV ?_ | with_reducible refine ev_orV ?_ | with_reducible refine ev_notV ?_
  | with_reducible refine ev_B ?_ | with_reducible refine ev_and ?_ | with_reducible refine ev_or ?_ | with_reducible refine ev_not ?_ | with_reducible refine ev_yes ?_ | with_reducible refine ev_if ?_ | with_reducible refine ev_no ?_ | with_reducible refine ev_so ?_ | with_reducible refine ev_sl ?_ | with_reducible refine ev_items ?_
  | (with_reducible refine ev_ixO ?_; refine ⟨_, _, rfl, rfl, ?_⟩) | (with_reducible refine ev_varO ?_; refine ⟨_, _, rfl, rfl, ?_⟩) | (with_reducible refine ev_lenO ?_; refine ⟨_, _, rfl, rfl, ?_⟩) | (with_reducible refine ev_scrSl ?_; refine ⟨_, rfl, ?_⟩) | (with_reducible refine ev_scrLen ?_; refine ⟨_, rfl, ?_⟩) | (with_reducible refine ev_callScr ?_; refine ⟨_, rfl, ?_⟩) | (with_reducible refine ev_OL ?_; refine ⟨_, _, rfl, rfl, ?_⟩) | with_reducible refine ev_OR ?_ | with_reducible refine ev_rep ?_ | with_reducible refine ev_listRng1 ?_ | with_reducible refine eo_setO ?_
  | with_reducible refine es_name ?_ | with_reducible refine es_tup2 ?_ | with_reducible refine es_tup3 ?_
  | with_reducible refine ed_addI ?_ | with_reducible refine ed_subI ?_ | with_reducible refine ed_cmp ?_ | with_reducible refine ed_eqI ?_ | with_reducible refine ed_neI ?_ | with_reducible refine ed_slT ?_ | with_reducible refine ed_slL ?_ | with_reducible refine ed_lenT ?_ | with_reducible refine ed_lenL ?_ | with_reducible refine ed_lenS ?_ | with_reducible refine ed_inS ?_ | with_reducible refine ed_itT ?_ | with_reducible refine ed_itL ?_ | with_reducible refine ed_tupL ?_ | with_reducible refine ed_tupT ?_ | with_reducible refine ed_listL ?_ | with_reducible refine ed_listT ?_ | with_reducible refine ed_neg ?_ | with_reducible refine ed_max ?_ | with_reducible refine ed_min ?_ | with_reducible refine ed_intB ?_
  | with_reducible refine ev_rng1 ?_ | with_reducible refine ev_rng2 ?_)
local macro_rules | `(tactic| walk_at "sd") => `(tactic| first | rfl | assumption | (simp only [decide_eq_true_eq, decide_eq_false_iff_not, Bool.not_eq_true', Bool.not_eq_false', Bool.and_eq_true, Bool.or_eq_true, List.length_map, List.length_cons, List.length_nil, List.length_append, List.length_range] at *; omega))
local macro_rules | `(tactic| walk_at "e2") => `(tactic| first
  | walk_at "e1" | with_reducible refine ⟨_, rfl, ?_⟩ | with_reducible refine ⟨_, _, rfl, ?_⟩
  | with_reducible refine And.intro (Eq.refl (List.length _)) ?_ | with_reducible refine And.intro (Nat.le_of_ble_eq_true (n := List.length _) rfl) ?_
  | with_reducible refine And.intro (Eq.refl (_ : Sx)) (?_ : Ed _ _)
  | ((with_reducible refine And.intro ?_ (And.intro ?_ (?_ : Ev _ _))); (· rfl); (· rfl))
  | ((with_reducible refine ed_ixT ?_ ?_ ?_); (· decide); (· rfl)) | ((with_reducible refine ed_ixL ?_ ?_ ?_); (· decide); (· rfl)) | ((with_reducible refine ed_at ?_ ?_ ?_); (· decide); (· rfl))
  | ((with_reducible refine ed_modI ?_ ?_); (· first | decide | omega))
  | with_reducible exact gives_nx | ((with_reducible refine gives_rt ?_); (· rfl)) | ((with_reducible refine And.intro ?_ ?_); (· exact rfl); (· with_reducible exact Eq.refl (_ : Sx))))
local macro_rules | `(tactic| walk_at "e") => `(tactic| repeat walk_at "e2")
/-- begin a def's spec -/
local macro_rules | `(tactic| walk_at "i") => `(tactic| simp only [initS, List.map_cons, List.map_nil, List.length_cons, List.length_nil, Nat.reduceAdd, Nat.reduceSub, List.replicate, List.cons_append, List.nil_append])
/-- a known truth decides -/
local macro_rules | `(tactic| walk_at "t") => `(tactic| first | ((with_reducible refine split_t ?_ ?_); (· walk_at "sd")) | ((with_reducible refine split_t' ?_ ?_); (· walk_at "sd")))
local macro_rules | `(tactic| walk_at "f") => `(tactic| first | ((with_reducible refine split_f ?_ ?_); (· walk_at "sd")) | ((with_reducible refine split_f' ?_ ?_); (· walk_at "sd")))
/-- all that is seen in a look -/
local macro_rules | `(tactic| walk_at "v") => `(tactic| (rw [sealAll_mk (by (simp only [List.set_cons_zero, List.set_cons_succ, List.map_cons, List.map_nil, sealS_none, sealS_dat, sealS_scr, sealS_own, List.getElem?_cons_zero, List.getElem?_cons_succ, sealC_lst]; rfl)) (by (simp only [List.set_cons_zero, List.set_cons_succ, List.map_cons, List.map_nil]; rfl))]))
/-! ### rides -/
def goesB (ls : List Ln) (e f : Int × Int) : Bool := decide (plc ls (far e) = plc ls f) && !decide (cmpy ls e = cmpy ls f)
def rideB (ls : List Ln) (es : List (Int × Int)) : Bool := decide (es ≠ []) && es.all (fun e => decide (EndOk ls.length e)) && decide (es.map Prod.fst).Nodup && (es.zip es.tail).all fun p => goesB ls p.1 p.2
def lastE (es : List (Int × Int)) : Int × Int := es.getLast?.getD (0, 0)
def headE (es : List (Int × Int)) : Int × Int := es.head?.getD (0, 0)
def roundB (ls : List Ln) (es : List (Int × Int)) : Bool := rideB ls es && goesB ls (lastE es) (headE es)
theorem far_far (e : Int × Int) : far (far e) = e := by
  unfold far
  obtain ⟨a, b⟩ := e
  simp only [Prod.mk.injEq, true_and]
  omega
theorem EndOk.far {n : Nat} {e : Int × Int} (h : EndOk n e) : EndOk n (far e) := by
  obtain ⟨h1, h2, h3, h4⟩ := h
  exact ⟨h1, h2, by show 0 ≤ 1 - e.2; omega, by show 1 - e.2 < 2; omega⟩
theorem cmpy_far (ls : List Ln) (e : Int × Int) : cmpy ls (far e) = cmpy ls e := rfl
theorem x_far_end {d : D} {e : Int × Int} (s : IsEn d e) : m_far_end [d] = some (en (far e)) := by
  unfold m_far_end; refine mF_of ?_; walk_at "i"; unfold g_far_end
  walk_at "e"
  refine ed_ixQ s (by decide) rfl ?_
  walk_at "e"
  refine ed_ixQ s (by decide) rfl ?_
  walk_at "e"
theorem x_can_go_on {w : D} {p : Int} {ls : List Ln} {a b : D} {e f : Int × Int} (hw : Web w p ls) (h : WbOk p ls) (sa : IsEn a e) (sb : IsEn b f) (he : EndOk ls.length e) (hf : EndOk ls.length f) : m_can_go_on [w, a, b] = some (.bool (goesB ls e f)) := by
  unfold m_can_go_on; refine mF_of ?_; walk_at "i"; unfold g_can_go_on goesB
  walk_at "e"
  refine Ed.of (x_far_end sa) ?_
  walk_at "e"
  refine Ed.of (x_place_of hw (isEn_en _) he.far) ?_
  walk_at "e"
  refine Ed.of (x_place_of hw sb hf) ?_
  walk_at "e"
  refine ⟨fun ht => ?_, fun ht => ?_⟩
  · walk_at "e"
    simp only [Bool.not_eq_true', decide_eq_false_iff_not] at ht
    simp [ht]
  · walk_at "e"
    refine Ed.of (x_company_of hw sa he) ?_
    walk_at "e"
    refine Ed.of (x_company_of hw sb hf) ?_
    walk_at "e"
    refine Ed.of (dNe_ch (cmpy_ok h he) (cmpy_ok h hf)) ?_
    simp only [Bool.not_eq_false', decide_eq_true_eq] at ht
    simp [ht]
theorem last_mem {es : List (Int × Int)} (h : es ≠ []) : es.getLast? = some (lastE es) ∧ lastE es ∈ es := by
  unfold lastE
  rw [List.getLast?_eq_some_getLast h]
  exact ⟨rfl, List.getLast_mem h⟩
theorem head_mem {es : List (Int × Int)} (h : es ≠ []) : es[0]? = some (headE es) ∧ headE es ∈ es := by
  cases es with
  | nil => exact absurd rfl h
  | cons e es => exact ⟨rfl, List.mem_cons_self⟩
theorem ed_lastQ {d : D} {xs : List D} {x : D} {Q : D → Prop} (s : Sq d xs) (e : xs.getLast? = some x) (q : Q x) : Ed (dIx d (.int (-1))) Q := by
  rcases s with rfl | rfl
  · obtain ⟨z, h1, h2⟩ := ed_atLast (Q := Q) e q
    exact ⟨z, h1, h2⟩
  · obtain ⟨z, h1, h2⟩ := ed_atLast (Q := Q) e q
    exact ⟨z, h1, h2⟩
/-- a list of ends, as handed -/
def IsRide (d : D) (es : List (Int × Int)) : Prop := ∃ ps : List (D × (Int × Int)), Sq d (ps.map (·.1)) ∧ es = ps.map (·.2) ∧ ∀ q ∈ ps, IsEn q.1 q.2
theorem ride_of {d : D} {es : List (Int × Int)} (s : Sq d (es.map en)) : IsRide d es := ⟨es.map fun l => (en l, l), by rw [List.map_map]; exact s, by rw [List.map_map]; exact (List.map_id _).symm, fun q hq => by
  obtain ⟨l, _, rfl⟩ := List.mem_map.mp hq
  exact isEn_en l⟩
def lE (es : List (Int × Int)) : D := .list (es.map en)
theorem ride_lE (es : List (Int × Int)) : IsRide (lE es) es := ride_of (sq_l _)
def unEn (d : D) : Int × Int := match seqOf d with
  | some [.int a, .int b] => (a, b)
  | _ => (0, 0)
theorem unEn_of {d : D} {e : Int × Int} (s : IsEn d e) : unEn d = e := by unfold unEn; rw [s.of]
def rideD (ls : List Ln) (d : D) : Bool := match seqOf d with
  | some xs => xs.all (endD ls.length) && rideB ls (xs.map unEn)
  | none => false
def roundD (ls : List Ln) (d : D) : Bool := match seqOf d with
  | some xs => xs.all (endD ls.length) && roundB ls (xs.map unEn)
  | none => false
theorem map_unEn {ps : List (D × (Int × Int))} (h : ∀ q ∈ ps, IsEn q.1 q.2) : (ps.map (·.1)).map unEn = ps.map (·.2) := by
  rw [List.map_map]
  exact List.map_congr_left fun q hq => unEn_of (h q hq)
theorem all_endD {ps : List (D × (Int × Int))} (h : ∀ q ∈ ps, IsEn q.1 q.2) (n : Nat) : (ps.map (·.1)).all (endD n) = (ps.map (·.2)).all fun e => decide (EndOk n e) := by
  rw [List.all_map, List.all_map]
  apply Bool.eq_iff_iff.mpr
  simp only [List.all_eq_true, Function.comp]
  exact ⟨fun k q hq => by rw [← endD_of (h q hq)]; exact k q hq, fun k q hq => by rw [endD_of (h q hq)]; exact k q hq⟩
theorem rideD_of {ls : List Ln} {d : D} {es : List (Int × Int)} (h : IsRide d es) : rideD ls d = rideB ls es := by
  obtain ⟨ps, s, rfl, hp⟩ := h
  unfold rideD; rw [s.of]
  simp only
  rw [map_unEn hp, all_endD hp]
  unfold rideB
  cases (ps.map (·.2)).all fun e => decide (EndOk ls.length e) <;> simp
theorem roundD_of {ls : List Ln} {d : D} {es : List (Int × Int)} (h : IsRide d es) : roundD ls d = roundB ls es := by
  obtain ⟨ps, s, rfl, hp⟩ := h
  unfold roundD; rw [s.of]
  simp only
  rw [map_unEn hp, all_endD hp]
  unfold roundB rideB
  cases (ps.map (·.2)).all fun e => decide (EndOk ls.length e) <;> simp
theorem seq_ride {xs : List D} {n : Nat} (h : xs.all (endD n) = true) : ∃ ps : List (D × (Int × Int)), xs = ps.map (·.1) ∧ (∀ q ∈ ps, IsEn q.1 q.2) ∧ ∀ q ∈ ps, EndOk n q.2 := by
  induction xs with
  | nil => exact ⟨[], rfl, (fun _ h => nomatch h), fun _ h => nomatch h⟩
  | cons x xs ih =>
    rw [List.all_cons, Bool.and_eq_true] at h
    obtain ⟨e, s, k⟩ := isEn_of h.1
    obtain ⟨ps, rfl, h1, h2⟩ := ih h.2
    exact ⟨(x, e) :: ps, rfl, fun q hq => by rcases List.mem_cons.mp hq with rfl | hq; exact s; exact h1 q hq, fun q hq => by rcases List.mem_cons.mp hq with rfl | hq; exact k; exact h2 q hq⟩
theorem of_rideD {ls : List Ln} {d : D} (h : rideD ls d = true) : ∃ es, IsRide d es ∧ rideB ls es = true := by
  have h0 := h
  unfold rideD at h
  split at h
  · rename_i xs e
    rw [Bool.and_eq_true] at h
    obtain ⟨ps, rfl, h1, h2⟩ := seq_ride h.1
    have k : IsRide d (ps.map (·.2)) := ⟨ps, sq_of e, rfl, h1⟩
    exact ⟨_, k, by rw [← rideD_of k]; exact h0⟩
  · cases h
theorem of_roundD {ls : List Ln} {d : D} (h : roundD ls d = true) : ∃ es, IsRide d es ∧ roundB ls es = true := by
  have h0 := h
  unfold roundD at h
  split at h
  · rename_i xs e
    rw [Bool.and_eq_true] at h
    obtain ⟨ps, rfl, h1, h2⟩ := seq_ride h.1
    have k : IsRide d (ps.map (·.2)) := ⟨ps, sq_of e, rfl, h1⟩
    exact ⟨_, k, by rw [← roundD_of k]; exact h0⟩
  · cases h
theorem rideB_ends {ls : List Ln} {es : List (Int × Int)} (h : rideB ls es = true) : es ≠ [] ∧ (∀ e ∈ es, EndOk ls.length e) ∧ (es.map Prod.fst).Nodup ∧ ∀ q ∈ es.zip es.tail, goesB ls q.1 q.2 = true := by
  unfold rideB at h
  simp only [Bool.and_eq_true, decide_eq_true_eq, List.all_eq_true] at h
  exact ⟨h.1.1.1, h.1.1.2, h.1.2, h.2⟩
def lenD (d : D) : Nat := ((seqOf d).getD []).length
theorem lenD_of {d : D} {xs : List D} (s : Sq d xs) : lenD d = xs.length := by unfold lenD; rw [s.of]; rfl
theorem cut_one {α : Type} (xs : List α) : cutL xs (some 1) none = xs.tail := by rw [cut_from (by decide), show (1 : Int).toNat = 1 from rfl, List.drop_one]
theorem x_ride_is {w : D} {p : Int} {ls : List Ln} (hw : Web w p ls) (h : WbOk p ls) (d : D) (hz : lenD d ≤ 4000) : m_ride_is [w, d] = some (.bool (rideD ls d)) := by
  unfold m_ride_is; refine mF_of ?_; walk_at "i"; unfold g_ride_is
  walk_at "e"
  rw [isi_seq]
  refine ⟨fun h1 => ?_, fun h1 => ?_⟩
  rotate_left
  · walk_at "t"
    walk_at "e"
    have h1 : seqOf d = none := by simpa using h1
    unfold rideD; rw [h1]
    simp
  obtain ⟨xs, hx⟩ := Option.isSome_iff_exists.mp (show (seqOf d).isSome = true by simpa using h1)
  have s := sq_of hx
  rw [lenD_of s] at hz
  have ed : rideD ls d = (xs.all (endD ls.length) && rideB ls (xs.map unEn)) := by unfold rideD; rw [hx]
  rw [ed]
  walk_at "e"
  refine ed_lenQ s ?_
  walk_at "e"
  refine ⟨fun hn => ?_, fun hn => ?_⟩
  rotate_left
  · walk_at "t"
    walk_at "e"
    have : xs = [] := by
      have hn := of_decide_eq_true hn
      exact List.length_eq_zero_iff.mp (by omega)
    simp [this, rideB]
  walk_at "e"
  refine ev_mapX (xs := xs) (enc := fun z => z) (g := fun z => .bool (endD ls.length z)) ?_
  walk_at "e"
  refine ed_itQ s ⟨by simp, fun z hz => ?_, ?_⟩
  · walk_at "e"
    exact Ed.of (x_is_end hw z) ⟨rfl, rfl⟩
  walk_at "e"
  refine all_mapX (endD ls.length) xs ?_
  walk_at "e"
  refine ⟨fun ha => ?_, fun ha => ?_⟩
  · walk_at "e"
    have ha : xs.all (endD ls.length) = false := by simpa using ha
    simp [ha]
  have ha : xs.all (endD ls.length) = true := by simpa using ha
  obtain ⟨ps, rfl, hp, hk⟩ := seq_ride ha
  rw [map_unEn hp, ha, Bool.true_and]
  have hnn : ps.map (·.2) ≠ [] := by
    intro z
    have : ps = [] := List.map_eq_nil_iff.mp z
    rw [this] at hn; simp at hn
  have hall : ∀ e ∈ ps.map (·.2), EndOk ls.length e := fun e he => by
    obtain ⟨q, hq, rfl⟩ := List.mem_map.mp he
    exact hk q hq
  have h1 : (ps.map (·.2)).all (fun e => decide (EndOk ls.length e)) = true := List.all_eq_true.mpr fun e he => decide_eq_true (hall e he)
  unfold rideB
  rw [decide_eq_true hnn, h1, Bool.true_and, Bool.true_and]
  walk_at "e"
  refine ev_mapX (xs := ps) (enc := (·.1)) (g := fun q => .int q.2.1) ?_
  walk_at "e"
  refine ed_itQ s ⟨rfl, fun q hq => ?_, ?_⟩
  · walk_at "e"
    refine ed_ixQ (hp q hq) (by decide) rfl ⟨rfl, rfl⟩
  have e1 : ps.map (fun q => PyData.int q.2.1) = ((ps.map (·.2)).map Prod.fst).map PyData.int := by rw [List.map_map, List.map_map]; rfl
  rw [e1]
  walk_at "e"
  refine ed_lenSet (by simpa using hz) ?_
  walk_at "e"
  refine ed_lenQ s ?_
  walk_at "e"
  have e2 : (((unlike ((ps.map (·.2)).map Prod.fst) : Nat) : Int) = ((ps.map (·.1)).length : Int)) ↔ ((ps.map (·.2)).map Prod.fst).Nodup := by
    rw [← unlike_iff]
    simp only [List.length_map]
    omega
  refine ⟨fun hd => ?_, fun hd => ?_⟩
  · walk_at "e"
    have hd : ¬ ((ps.map (·.2)).map Prod.fst).Nodup := by
      rw [← e2]
      simpa using hd
    rw [decide_eq_false hd]; rfl
  have hd : ((ps.map (·.2)).map Prod.fst).Nodup := by
    rw [← e2]
    simpa using hd
  rw [decide_eq_true hd, Bool.true_and]
  walk_at "e"
  refine ev_mapX (xs := ps.zip ps.tail) (enc := fun z => .tuple [z.1.1, z.2.1]) (g := fun z => .bool (goesB ls z.1.2 z.2.2)) ?_
  have tl : (ps.map (·.1)).tail = ps.tail.map (·.1) := by rw [List.map_tail]
  have ez : zipD (ps.map (·.1)) ((ps.map (·.1)).tail) = (ps.zip ps.tail).map fun z => .tuple [z.1.1, z.2.1] := by
    rw [tl, zipD_map]
  refine ev_zip ?_
  rcases s with rfl | rfl
  · walk_at "e"
    rw [cut_one]
    refine .inl ⟨_, _, rfl, ez, fun z hz => ?_, ?_⟩
    · obtain ⟨m1, m2⟩ := List.of_mem_zip hz
      walk_at "e"
      exact Ed.of (x_can_go_on hw h (hp _ m1) (hp _ (List.mem_of_mem_tail m2)) (hk _ m1) (hk _ (List.mem_of_mem_tail m2))) ⟨rfl, rfl⟩
    · walk_at "e"
      refine all_mapX (fun z : (D × (Int × Int)) × (D × (Int × Int)) => goesB ls z.1.2 z.2.2) _ ?_
      rw [gives_rtI, ← List.map_tail, List.zip_map, List.all_map]
      rfl
  · walk_at "e"
    rw [cut_one]
    refine .inr ⟨_, _, rfl, ez, fun z hz => ?_, ?_⟩
    · obtain ⟨m1, m2⟩ := List.of_mem_zip hz
      walk_at "e"
      exact Ed.of (x_can_go_on hw h (hp _ m1) (hp _ (List.mem_of_mem_tail m2)) (hk _ m1) (hk _ (List.mem_of_mem_tail m2))) ⟨rfl, rfl⟩
    · walk_at "e"
      refine all_mapX (fun z : (D × (Int × Int)) × (D × (Int × Int)) => goesB ls z.1.2 z.2.2) _ ?_
      rw [gives_rtI, ← List.map_tail, List.zip_map, List.all_map]
      rfl
theorem ride_round {ls : List Ln} {d : D} : roundD ls d = (rideD ls d && match seqOf d with
    | some xs => goesB ls (lastE (xs.map unEn)) (headE (xs.map unEn))
    | none => false) := by
  unfold roundD rideD roundB
  cases seqOf d with
  | none => rfl
  | some xs => simp only [Bool.and_assoc]
theorem last_map {ps : List (D × (Int × Int))} (h : ps ≠ []) : ∃ q, q ∈ ps ∧ (ps.map (·.1)).getLast? = some q.1 ∧ lastE (ps.map (·.2)) = q.2 := by
  refine ⟨ps.getLast h, List.getLast_mem h, ?_, ?_⟩
  · rw [List.getLast?_map, List.getLast?_eq_some_getLast h]; rfl
  · unfold lastE
    rw [List.getLast?_map, List.getLast?_eq_some_getLast h]; rfl
theorem head_map {ps : List (D × (Int × Int))} (h : ps ≠ []) : ∃ q, q ∈ ps ∧ (ps.map (·.1))[0]? = some q.1 ∧ headE (ps.map (·.2)) = q.2 := by
  cases ps with
  | nil => exact absurd rfl h
  | cons q ps => exact ⟨q, List.mem_cons_self, rfl, rfl⟩
theorem x_round_is {w : D} {p : Int} {ls : List Ln} (hw : Web w p ls) (h : WbOk p ls) (d : D) (hz : lenD d ≤ 4000) : m_round_is [w, d] = some (.bool (roundD ls d)) := by
  unfold m_round_is; refine mF_of ?_; walk_at "i"; unfold g_round_is
  walk_at "e"
  refine Ed.of (x_ride_is hw h d hz) ?_
  rw [ride_round]
  walk_at "e"
  refine ⟨fun hr => ?_, fun hr => by simp [hr]⟩
  obtain ⟨es, ⟨ps, s, rfl, hp⟩, hb⟩ := of_rideD hr
  obtain ⟨hn, hall, _, _⟩ := rideB_ends hb
  have hn : ps ≠ [] := fun z => hn (by rw [z]; rfl)
  obtain ⟨a, ha, la, la2⟩ := last_map hn
  obtain ⟨b, hb, lb, lb2⟩ := head_map hn
  walk_at "e"
  refine ed_lastQ s la ?_
  walk_at "e"
  refine ed_ixQ s (by decide) lb ?_
  walk_at "e"
  refine Ed.of (x_can_go_on hw h (hp _ ha) (hp _ hb) (hall _ (List.mem_map_of_mem ha)) (hall _ (List.mem_map_of_mem hb))) ?_
  walk_at "e"
  rw [s.of]
  simp only [map_unEn hp, la2, lb2, hr, Bool.true_and]
  rfl
end Lw

set_option maxHeartbeats 4000000
namespace Lw
open PySem Fu
local macro_rules | `(tactic| walk_at "e1") => `(tactic| first
  | with_reducible refine eo_seq ?_ | (with_reducible refine then_nx' ?_; refine ⟨?_, ?_, ?_⟩; rotate_left; · (try dsimp only [List.set, List.length_cons, List.length_nil, List.cons_append, List.nil_append, Nat.zero_add, Nat.reduceAdd]); exact rfl) | with_reducible refine then_rt ?_ | with_reducible refine eo_if ?_ | with_reducible refine eo_ret ?_ | with_reducible refine eo_set ?_ | with_reducible refine eo_asg ?_ | with_reducible refine eo_drop ?_ | with_reducible refine eo_nx ?_ | with_reducible refine eo_par ?_ | with_reducible refine eo_own ?_ | with_reducible refine eo_retN ?_ | with_reducible refine eo_for ?_ | with_reducible refine eo_retO ?_
  | with_reducible refine ev_c ?_ | (with_reducible refine ev_var ?_; refine ⟨_, rfl, ?_⟩) | with_reducible refine ev_bin ?_ | with_reducible refine ev_un ?_ | with_reducible refine ev_nil ?_ | with_reducible refine ev_cons ?_
  | with_reducible refine ev_tup ?_ | with_reducible refine ev_lst ?_ | with_reducible refine ev_call ?_ | with_reducible refine ev_callF ?_ | with_reducible refine ev_isi ?_ | with_reducible refine ev_isi2 ?_ | with_reducible refine ev_andV ?_ | with_reducible refine ev_orV ?_ | with_reducible refine ev_notV ?_
  | with_reducible refine ev_B ?_ | with_reducible refine ev_and ?_ | with_reducible refine ev_or ?_ | with_reducible refine ev_not ?_ | with_reducible refine ev_yes ?_ | with_reducible refine ev_if ?_ | with_reducible refine ev_no ?_ | with_reducible refine ev_so ?_ | with_reducible refine ev_sl ?_ | with_reducible refine ev_items ?_
  | (with_reducible refine ev_ixO ?_; refine ⟨_, _, rfl, rfl, ?_⟩) | (with_reducible refine ev_varO ?_; refine ⟨_, _, rfl, rfl, ?_⟩) | (with_reducible refine ev_lenO ?_; refine ⟨_, _, rfl, rfl, ?_⟩) | (with_reducible refine ev_scrSl ?_; refine ⟨_, rfl, ?_⟩) | (with_reducible refine ev_scrLen ?_; refine ⟨_, rfl, ?_⟩) | (with_reducible refine ev_callScr ?_; refine ⟨_, rfl, ?_⟩) | (with_reducible refine ev_OL ?_; refine ⟨_, _, rfl, rfl, ?_⟩) | with_reducible refine ev_OR ?_ | with_reducible refine ev_rep ?_ | with_reducible refine ev_listRng1 ?_ | with_reducible refine eo_setO ?_
  | with_reducible refine es_name ?_ | with_reducible refine es_tup2 ?_ | with_reducible refine es_tup3 ?_
  | with_reducible refine ed_addI ?_ | with_reducible refine ed_subI ?_ | with_reducible refine ed_cmp ?_ | with_reducible refine ed_eqI ?_ | with_reducible refine ed_neI ?_ | with_reducible refine ed_slT ?_ | with_reducible refine ed_slL ?_ | with_reducible refine ed_lenT ?_ | with_reducible refine ed_lenL ?_ | with_reducible refine ed_lenS ?_ | with_reducible refine ed_inS ?_ | with_reducible refine ed_itT ?_ | with_reducible refine ed_itL ?_ | with_reducible refine ed_tupL ?_ | with_reducible refine ed_tupT ?_ | with_reducible refine ed_listL ?_ | with_reducible refine ed_listT ?_ | with_reducible refine ed_neg ?_ | with_reducible refine ed_max ?_ | with_reducible refine ed_min ?_ | with_reducible refine ed_intB ?_
  | with_reducible refine ev_rng1 ?_ | with_reducible refine ev_rng2 ?_)
local macro_rules | `(tactic| walk_at "sd") => `(tactic| first | rfl | assumption | (simp only [decide_eq_true_eq, decide_eq_false_iff_not, Bool.not_eq_true', Bool.not_eq_false', Bool.and_eq_true, Bool.or_eq_true, List.length_map, List.length_cons, List.length_nil, List.length_append, List.length_range] at *; omega))
local macro_rules | `(tactic| walk_at "e2") => `(tactic| first
  | walk_at "e1" | with_reducible refine ⟨_, rfl, ?_⟩ | with_reducible refine ⟨_, _, rfl, ?_⟩
  | with_reducible refine And.intro (Eq.refl (List.length _)) ?_ | with_reducible refine And.intro (Nat.le_of_ble_eq_true (n := List.length _) rfl) ?_
  | with_reducible refine And.intro (Eq.refl (_ : Sx)) (?_ : Ed _ _)
  | ((with_reducible refine And.intro ?_ (And.intro ?_ (?_ : Ev _ _))); (· rfl); (· rfl))
  | ((with_reducible refine ed_ixT ?_ ?_ ?_); (· decide); (· rfl)) | ((with_reducible refine ed_ixL ?_ ?_ ?_); (· decide); (· rfl)) | ((with_reducible refine ed_at ?_ ?_ ?_); (· decide); (· rfl))
  | ((with_reducible refine ed_modI ?_ ?_); (· first | decide | omega))
  | with_reducible exact gives_nx | ((with_reducible refine gives_rt ?_); (· rfl)) | ((with_reducible refine And.intro ?_ ?_); (· exact rfl); (· with_reducible exact Eq.refl (_ : Sx))))
local macro_rules | `(tactic| walk_at "e") => `(tactic| repeat walk_at "e2")
/-- begin a def's spec -/
local macro_rules | `(tactic| walk_at "i") => `(tactic| simp only [initS, List.map_cons, List.map_nil, List.length_cons, List.length_nil, Nat.reduceAdd, Nat.reduceSub, List.replicate, List.cons_append, List.nil_append])
/-- a known truth decides -/
local macro_rules | `(tactic| walk_at "t") => `(tactic| first | ((with_reducible refine split_t ?_ ?_); (· walk_at "sd")) | ((with_reducible refine split_t' ?_ ?_); (· walk_at "sd")))
local macro_rules | `(tactic| walk_at "f") => `(tactic| first | ((with_reducible refine split_f ?_ ?_); (· walk_at "sd")) | ((with_reducible refine split_f' ?_ ?_); (· walk_at "sd")))
/-- all that is seen in a look -/
local macro_rules | `(tactic| walk_at "v") => `(tactic| (rw [sealAll_mk (by (simp only [List.set_cons_zero, List.set_cons_succ, List.map_cons, List.map_nil, sealS_none, sealS_dat, sealS_scr, sealS_own, List.getElem?_cons_zero, List.getElem?_cons_succ, sealC_lst]; rfl)) (by (simp only [List.set_cons_zero, List.set_cons_succ, List.map_cons, List.map_nil]; rfl))]))
/-! ### ends paired up, and the rows that they make: plain -/
namespace Rd
abbrev En2 := Int × Int
structure Pairing (ls : List Ln) (P : En2 → Option En2) : Prop where
  ok : ∀ {e f}, P e = some f → EndOk ls.length e ∧ EndOk ls.length f
  at_ : ∀ {e f}, P e = some f → plc ls e = plc ls f
  un : ∀ {e f}, P e = some f → cmpy ls e ≠ cmpy ls f
  back : ∀ {e f}, P e = some f → P f = some e
def nx (P : En2 → Option En2) (e : En2) : Option En2 := P (far e)
def Path (P : En2 → Option En2) (es : List En2) : Prop := ∀ i e f, es[i]? = some e → es[i + 1]? = some f → nx P e = some f
structure Row (n : Nat) (P : En2 → Option En2) (s : En2) (es : List En2) : Prop where
  hd : es[0]? = some s
  path : Path P es
  new : ∀ i, es[i + 1]? ≠ some s
  ok : ∀ e ∈ es, EndOk n e
def lst (es : List En2) : En2 := es.getLast?.getD (0, 0)
theorem far_ne (e : En2) : far e ≠ e := by
  intro h
  have := congrArg Prod.snd h
  simp only [far] at this
  omega
theorem same_line {n : Nat} {e f : En2} (h : EndOk n e) (g : EndOk n f) (q : e.1 = f.1) : f = e ∨ f = far e := by
  obtain ⟨a, b⟩ := e
  obtain ⟨c, d⟩ := f
  obtain ⟨_, _, h3, h4⟩ := h
  obtain ⟨_, _, g3, g4⟩ := g
  simp only at q h3 h4 g3 g4
  subst q
  by_cases z : d = b
  · left; rw [z]
  · right; unfold far; simp only [Prod.mk.injEq, true_and]; omega
section
variable {ls : List Ln} {P : En2 → Option En2} (pr : Pairing ls P)
include pr
theorem nx_inj {a b x : En2} (h : nx P a = some x) (g : nx P b = some x) : a = b := by
  have h1 := pr.back h
  have h2 := pr.back g
  rw [h1] at h2
  have := Option.some.inj h2
  have := congrArg far this
  rwa [far_far, far_far] at this
theorem nx_goes {e f : En2} (h : nx P e = some f) : goesB ls e f = true := by
  unfold goesB
  rw [decide_eq_true (pr.at_ h), decide_eq_false (show ¬ cmpy ls e = cmpy ls f from by have := pr.un h; rwa [cmpy_far] at this)]
  rfl
variable {n : Nat} {s : En2} {es : List En2}
theorem row_lt (r : Row n P s es) : ∀ (i j : Nat) (x : En2), i < j → es[i]? = some x → es[j]? = some x → False
  | 0, j, x, h, h1, h2 => by
    rw [r.hd] at h1; cases h1
    obtain ⟨k, rfl⟩ : ∃ k, j = k + 1 := ⟨j - 1, by omega⟩
    exact r.new k h2
  | i + 1, j, x, h, h1, h2 => by
    obtain ⟨k, rfl⟩ : ∃ k, j = k + 1 := ⟨j - 1, by omega⟩
    obtain ⟨l1, _⟩ := List.getElem?_eq_some_iff.mp h1
    obtain ⟨l2, _⟩ := List.getElem?_eq_some_iff.mp h2
    have q1 := r.path i _ x (List.getElem?_eq_getElem (by omega)) h1
    have q2 := r.path k _ x (List.getElem?_eq_getElem (by omega)) h2
    have e := nx_inj pr q1 q2
    exact row_lt r i k _ (by omega) (List.getElem?_eq_getElem (by omega)) (by rw [e]; exact List.getElem?_eq_getElem (by omega))
theorem row_nofar (r : Row n P s es) : ∀ (k i : Nat) (x : En2), es[i]? = some x → es[i + k]? = some (far x) → False
  | 0, i, x, h1, h2 => by
    rw [Nat.add_zero, h1] at h2
    exact far_ne x (Option.some.inj h2).symm
  | 1, i, x, h1, h2 => by
    have := r.path i _ _ h1 h2
    exact pr.un this rfl
  | k + 2, i, x, h1, h2 => by
    obtain ⟨l2, _⟩ := List.getElem?_eq_some_iff.mp h2
    have g1 : es[i + 1]? = some es[i + 1] := List.getElem?_eq_getElem (by omega)
    have g2 : es[i + 1 + k]? = some es[i + 1 + k] := List.getElem?_eq_getElem (by omega)
    have q1 : P (far x) = some es[i + 1] := r.path i _ _ h1 g1
    have q2 : P (far es[i + 1 + k]) = some (far x) := r.path (i + 1 + k) _ _ g2 (by rw [← h2]; congr 1; omega)
    have q3 := pr.back q2
    rw [q1] at q3
    have q4 : es[i + 1] = far es[i + 1 + k] := Option.some.inj q3
    refine row_nofar r k (i + 1) es[i + 1] g1 ?_
    rw [g2, q4, far_far]
theorem row_nodup (r : Row n P s es) : (es.map Prod.fst).Nodup := by
  refine List.pairwise_map.mpr (List.pairwise_iff_getElem.mpr fun i j hi hj hij q => ?_)
  have g1 : es[i]? = some es[i] := List.getElem?_eq_getElem hi
  have g2 : es[j]? = some es[j] := List.getElem?_eq_getElem hj
  rcases same_line (r.ok _ (List.getElem_mem hi)) (r.ok _ (List.getElem_mem hj)) q with e | e
  · rw [e] at g2; exact row_lt pr r i j _ hij g1 g2
  · refine row_nofar pr r (j - i) i _ g1 ?_
    rw [show i + (j - i) = j by omega, g2, e]
theorem row_len (r : Row n P s es) : es.length ≤ n := by
  have h := (row_nodup pr r).length_le_of_subset (l₂ := (List.range n).map fun k : Nat => (k : Int)) ?_
  · simpa using h
  · intro x hx
    obtain ⟨e, he, rfl⟩ := List.mem_map.mp hx
    obtain ⟨h1, h2, _⟩ := r.ok e he
    exact List.mem_map.mpr ⟨e.1.toNat, List.mem_range.mpr (by omega), by omega⟩
theorem row_ne (r : Row n P s es) : es ≠ [] := by
  rintro rfl
  have := r.hd
  simp at this
omit pr in
theorem zip_tail {es : List En2} {p : En2 × En2} (h : p ∈ es.zip es.tail) : ∃ i : Nat, es[i]? = some p.1 ∧ es[i + 1]? = some p.2 := by
  obtain ⟨i, hi, e⟩ := List.mem_iff_getElem.mp h
  rw [List.getElem_zip] at e
  rw [List.length_zip, List.length_tail] at hi
  subst e
  refine ⟨i, List.getElem?_eq_getElem (by omega), ?_⟩
  rw [List.getElem?_eq_getElem (by omega)]
  simp
theorem row_ride (r : Row ls.length P s es) : rideB ls es = true := by
  unfold rideB
  rw [decide_eq_true (row_ne pr r), decide_eq_true (row_nodup pr r)]
  simp only [Bool.true_and, Bool.and_true, Bool.and_eq_true, List.all_eq_true, decide_eq_true_eq]
  refine ⟨r.ok, fun p hp => ?_⟩
  obtain ⟨i, h1, h2⟩ := zip_tail hp
  exact nx_goes pr (r.path i _ _ h1 h2)
theorem row_head (r : Row n P s es) : headE es = s := by
  have h := (head_mem (row_ne pr r)).1
  rw [r.hd] at h
  exact (Option.some.inj h).symm
theorem row_round (r : Row ls.length P s es) (h : nx P (lastE es) = some s) : roundB ls es = true := by
  unfold roundB
  rw [row_ride pr r, row_head pr r, nx_goes pr h]
  rfl
/-- one end more -/
theorem row_snoc (r : Row n P s es) {f : En2} (h : nx P (lastE es) = some f) (hf : f ≠ s) (hn : ls.length = n) : Row n P s (es ++ [f]) := by
  have h0 := row_ne pr r
  have hl : 0 < es.length := List.length_pos_iff.mpr h0
  refine ⟨?_, fun i e g h1 h2 => ?_, fun i h1 => ?_, fun e he => ?_⟩
  · rw [List.getElem?_append_left hl]; exact r.hd
  · by_cases hi : i + 1 < es.length
    · rw [List.getElem?_append_left (by omega)] at h1
      rw [List.getElem?_append_left hi] at h2
      exact r.path i e g h1 h2
    · obtain ⟨l2, _⟩ := List.getElem?_eq_some_iff.mp h2
      rw [List.length_append, List.length_singleton] at l2
      have hi2 : i + 1 = es.length := by omega
      rw [hi2, List.getElem?_concat_length] at h2
      cases h2
      rw [List.getElem?_append_left (by omega)] at h1
      have := (last_mem h0).1
      rw [List.getLast?_eq_getElem?, show es.length - 1 = i by omega, h1] at this
      cases this
      exact h
  · by_cases hi : i + 1 < es.length
    · rw [List.getElem?_append_left hi] at h1
      exact r.new i h1
    · obtain ⟨l2, _⟩ := List.getElem?_eq_some_iff.mp h1
      rw [List.length_append, List.length_singleton] at l2
      rw [show i + 1 = es.length by omega, List.getElem?_concat_length] at h1
      exact hf (Option.some.inj h1)
  · rcases List.mem_append.mp he with he | he
    · exact r.ok e he
    · rw [List.mem_singleton.mp he]; rw [← hn]; exact (pr.ok h).2
theorem row_one (s : En2) (h : EndOk n s) : Row n P s [s] :=
  ⟨rfl, fun i e f h1 h2 => by simp at h2, fun i h => by simp at h, fun e he => by rw [List.mem_singleton.mp he]; exact h⟩
/-! #### what is gone along -/
omit pr in
def Closed (P : En2 → Option En2) (G : List Int) : Prop := ∀ e f, P e = some f → e.1 ∈ G → f.1 ∈ G
theorem row_fresh {G : List Int} (r : Row n P s es) (hc : Closed P G) (hs : s.1 ∉ G) : ∀ (i : Nat) (e : En2), es[i]? = some e → e.1 ∉ G
  | 0, e, h => by rw [r.hd] at h; cases h; exact hs
  | i + 1, e, h => by
    obtain ⟨l, _⟩ := List.getElem?_eq_some_iff.mp h
    have g : es[i]? = some es[i] := List.getElem?_eq_getElem (by omega)
    have q := pr.back (r.path i _ _ g h)
    intro z
    exact row_fresh r hc hs i _ g (show (far es[i]).1 ∈ G from hc _ _ q z)
theorem row_freshM {G : List Int} (r : Row n P s es) (hc : Closed P G) (hs : s.1 ∉ G) : ∀ e ∈ es, e.1 ∉ G := fun e he => by
  obtain ⟨i, hi, q⟩ := List.mem_iff_getElem.mp he
  exact row_fresh pr r hc hs i e (by rw [List.getElem?_eq_getElem hi, q])
theorem row_closed {G : List Int} (hn : ls.length = n) (r : Row n P s es) (hc : Closed P G) (hs : ∀ f, P s = some f → f = far (lastE es)) (hl : ∀ f, nx P (lastE es) = some f → f = s) : Closed P (G ++ es.map Prod.fst) := by
  intro e f h he
  have h0 := row_ne pr r
  rw [List.mem_append] at he ⊢
  rcases he with he | he
  · exact .inl (hc e f h he)
  · right
    obtain ⟨x, hx, q⟩ := List.mem_map.mp he
    obtain ⟨i, hi, qi⟩ := List.mem_iff_getElem.mp hx
    have g : es[i]? = some x := by rw [List.getElem?_eq_getElem hi, qi]
    rcases same_line (r.ok x hx) (hn ▸ (pr.ok h).1) q with rfl | rfl
    · cases i with
      | zero =>
        rw [r.hd] at g; cases g
        rw [hs f h]
        exact List.mem_map.mpr ⟨_, (last_mem h0).2, rfl⟩
      | succ i =>
        have g2 : es[i]? = some es[i] := List.getElem?_eq_getElem (by omega)
        have q2 := pr.back (r.path i _ _ g2 g)
        rw [h] at q2
        rw [Option.some.inj q2]
        exact List.mem_map.mpr ⟨_, List.getElem_mem _, rfl⟩
    · by_cases hi2 : i + 1 < es.length
      · have g2 : es[i + 1]? = some es[i + 1] := List.getElem?_eq_getElem hi2
        have q2 := r.path i _ _ g g2
        rw [show nx P x = P (far x) from rfl, h] at q2
        rw [Option.some.inj q2]
        exact List.mem_map.mpr ⟨_, List.getElem_mem _, rfl⟩
      · have : lastE es = x := by
          have := (last_mem h0).1
          rw [List.getLast?_eq_getElem?, show es.length - 1 = i by omega, g] at this
          exact (Option.some.inj this).symm
        rw [hl f (by rw [this]; exact h)]
        exact List.mem_map.mpr ⟨s, by have := (head_mem h0).2; rwa [row_head pr r] at this, rfl⟩
end
/-- a word with a row: a ride, or a round -/
abbrev Pc := Bool × List En2
def pcB (ls : List Ln) (x : Pc) : Bool := if x.1 then roundB ls x.2 else rideB ls x.2
def lnsOf (ps : List Pc) : List Int := ps.flatMap fun x => x.2.map Prod.fst
structure Told (ls : List Ln) (P : En2 → Option En2) (G : List Int) (ps : List Pc) : Prop where
  lns : lnsOf ps = G
  nd : G.Nodup
  cl : Closed P G
  all : ∀ x ∈ ps, pcB ls x = true
  inn : ∀ l ∈ G, 0 ≤ l ∧ l < ls.length
theorem told_nil (ls : List Ln) (P : En2 → Option En2) : Told ls P [] [] := ⟨rfl, List.nodup_nil, fun _ _ _ h => (List.not_mem_nil h).elim, fun _ h => (List.not_mem_nil h).elim, fun _ h => (List.not_mem_nil h).elim⟩
section
variable {ls : List Ln} {P : En2 → Option En2} {G : List Int} {ps : List Pc} {s : En2} {es : List En2}
theorem Told.more (t : Told ls P G ps) (pr : Pairing ls P) (r : Row ls.length P s es) (hs : s.1 ∉ G) (h1 : ∀ f, P s = some f → f = far (lastE es)) (h2 : ∀ f, nx P (lastE es) = some f → f = s) {b : Bool} (hb : b = true → nx P (lastE es) = some s) : Told ls P (G ++ es.map Prod.fst) (ps ++ [(b, es)]) := by
  refine ⟨?_, ?_, row_closed pr rfl r t.cl h1 h2, fun x hx => ?_, fun l hl => ?_⟩
  · unfold lnsOf; rw [List.flatMap_append, show ps.flatMap _ = G from t.lns]; simp
  · refine List.nodup_append.mpr ⟨t.nd, row_nodup pr r, fun a ha b hb e => ?_⟩
    subst e
    obtain ⟨x, hx, rfl⟩ := List.mem_map.mp hb
    exact row_freshM pr r t.cl hs x hx ha
  · rcases List.mem_append.mp hx with hx | hx
    · exact t.all x hx
    · rw [List.mem_singleton.mp hx]
      unfold pcB
      cases b with
      | true => exact row_round pr r (hb rfl)
      | false => exact row_ride pr r
  · rcases List.mem_append.mp hl with hl | hl
    · exact t.inn l hl
    · obtain ⟨x, hx, rfl⟩ := List.mem_map.mp hl
      exact ⟨(r.ok x hx).1, (r.ok x hx).2.1⟩
/-- a ride: from an end left alone, to its end -/
theorem Told.ride (t : Told ls P G ps) (pr : Pairing ls P) (r : Row ls.length P s es) (hs : s.1 ∉ G) (h1 : P s = none) (h2 : ∀ f, nx P (lastE es) = some f → f = s) : Told ls P (G ++ es.map Prod.fst) (ps ++ [(false, es)]) :=
  t.more pr r hs (fun f h => by rw [h1] at h; cases h) h2 (fun h => by cases h)
def Full (n : Nat) (P : En2 → Option En2) (G : List Int) : Prop := ∀ e, EndOk n e → P e = none → e.1 ∈ G
theorem Full.app {n : Nat} {H : List Int} (h : Full n P G) : Full n P (G ++ H) := fun e he q => List.mem_append_left _ (h e he q)
theorem row_comes (pr : Pairing ls P) (t : Told ls P G ps) (fl : Full ls.length P G) (r : Row ls.length P s es) (hs : s.1 ∉ G) (h2 : ∀ f, nx P (lastE es) = some f → f = s) : nx P (lastE es) = some s := by
  have hm := (last_mem (row_ne pr r)).2
  have h := row_freshM pr r t.cl hs _ hm
  cases e : nx P (lastE es) with
  | some f => rw [h2 f e]
  | none => exact absurd (fl (far (lastE es)) (r.ok _ hm).far e) h
theorem Told.round (t : Told ls P G ps) (pr : Pairing ls P) (fl : Full ls.length P G) (r : Row ls.length P s es) (hs : s.1 ∉ G) (h2 : ∀ f, nx P (lastE es) = some f → f = s) : Told ls P (G ++ es.map Prod.fst) (ps ++ [(true, es)]) := by
  have hb := row_comes pr t fl r hs h2
  refine t.more pr r hs (fun f h => ?_) h2 fun _ => hb
  have := pr.back hb
  rw [h] at this
  exact Option.some.inj this
theorem Told.perm (t : Told ls P G ps) (h : ∀ l : Nat, l < ls.length → (l : Int) ∈ G) : (lnsOf ps).Perm ((List.range ls.length).map fun i : Nat => (i : Int)) := by
  rw [t.lns]
  refine (List.perm_ext_iff_of_nodup t.nd (List.pairwise_map.mpr (List.nodup_range.imp fun h q => h (by omega)))).mpr fun l => ⟨fun hl => ?_, fun hl => ?_⟩
  · obtain ⟨h1, h2⟩ := t.inn l hl
    exact List.mem_map.mpr ⟨l.toNat, List.mem_range.mpr (by omega), by omega⟩
  · obtain ⟨k, hk, rfl⟩ := List.mem_map.mp hl
    exact h k (List.mem_range.mp hk)
end
end Rd
end Lw

set_option maxHeartbeats 4000000
namespace Lw
open PySem Fu
local macro_rules | `(tactic| walk_at "e1") => `(tactic| first
  | with_reducible refine eo_seq ?_ | (with_reducible refine then_nx' ?_; refine ⟨?_, ?_, ?_⟩; rotate_left; · (try dsimp only [List.set, List.length_cons, List.length_nil, List.cons_append, List.nil_append, Nat.zero_add, Nat.reduceAdd]); exact rfl) | with_reducible refine then_rt ?_ | with_reducible refine eo_if ?_ | with_reducible refine eo_ret ?_ | with_reducible refine eo_set ?_ | with_reducible refine eo_asg ?_ | with_reducible refine eo_drop ?_ | with_reducible refine eo_nx ?_ | with_reducible refine eo_par ?_ | with_reducible refine eo_own ?_ | with_reducible refine eo_retN ?_ | with_reducible refine eo_for ?_ | with_reducible refine eo_retO ?_
  | with_reducible refine ev_c ?_ | (with_reducible refine ev_var ?_; refine ⟨_, rfl, ?_⟩) | with_reducible refine ev_bin ?_ | with_reducible refine ev_un ?_ | with_reducible refine ev_nil ?_ | with_reducible refine ev_cons ?_
  | with_reducible refine ev_tup ?_ | with_reducible refine ev_lst ?_ | with_reducible refine ev_call ?_ | with_reducible refine ev_callF ?_ | with_reducible refine ev_isi ?_ | with_reducible refine ev_isi2 ?_ | with_reducible refine ev_andV ?_ | with_reducible refine ev_orV ?_ | with_reducible refine ev_notV ?_
  | with_reducible refine ev_B ?_ | with_reducible refine ev_and ?_ | with_reducible refine ev_or ?_ | with_reducible refine ev_not ?_ | with_reducible refine ev_yes ?_ | with_reducible refine ev_if ?_ | with_reducible refine ev_no ?_ | with_reducible refine ev_so ?_ | with_reducible refine ev_sl ?_ | with_reducible refine ev_items ?_
  | (with_reducible refine ev_ixO ?_; refine ⟨_, _, rfl, rfl, ?_⟩) | (with_reducible refine ev_varO ?_; refine ⟨_, _, rfl, rfl, ?_⟩) | (with_reducible refine ev_lenO ?_; refine ⟨_, _, rfl, rfl, ?_⟩) | (with_reducible refine ev_scrSl ?_; refine ⟨_, rfl, ?_⟩) | (with_reducible refine ev_scrLen ?_; refine ⟨_, rfl, ?_⟩) | (with_reducible refine ev_callScr ?_; refine ⟨_, rfl, ?_⟩) | (with_reducible refine ev_OL ?_; refine ⟨_, _, rfl, rfl, ?_⟩) | with_reducible refine ev_OR ?_ | with_reducible refine ev_rep ?_ | with_reducible refine ev_listRng1 ?_ | with_reducible refine eo_setO ?_
  | with_reducible refine es_name ?_ | with_reducible refine es_tup2 ?_ | with_reducible refine es_tup3 ?_
  | with_reducible refine ed_addI ?_ | with_reducible refine ed_subI ?_ | with_reducible refine ed_cmp ?_ | with_reducible refine ed_eqI ?_ | with_reducible refine ed_neI ?_ | with_reducible refine ed_slT ?_ | with_reducible refine ed_slL ?_ | with_reducible refine ed_lenT ?_ | with_reducible refine ed_lenL ?_ | with_reducible refine ed_lenS ?_ | with_reducible refine ed_inS ?_ | with_reducible refine ed_itT ?_ | with_reducible refine ed_itL ?_ | with_reducible refine ed_tupL ?_ | with_reducible refine ed_tupT ?_ | with_reducible refine ed_listL ?_ | with_reducible refine ed_listT ?_ | with_reducible refine ed_neg ?_ | with_reducible refine ed_max ?_ | with_reducible refine ed_min ?_ | with_reducible refine ed_intB ?_)
local macro_rules | `(tactic| walk_at "e2") => `(tactic| first
  | walk_at "e1" | with_reducible refine ⟨_, rfl, ?_⟩ | with_reducible refine ⟨_, _, rfl, ?_⟩
  | with_reducible refine And.intro (Eq.refl (List.length _)) ?_ | with_reducible refine And.intro (Nat.le_of_ble_eq_true (n := List.length _) rfl) ?_
  | with_reducible refine And.intro (Eq.refl (_ : Sx)) (?_ : Ed _ _)
  | with_reducible exact gives_nx | with_reducible (refine gives_rt ?_; rfl))
local macro_rules | `(tactic| walk_at "e") => `(tactic| repeat walk_at "e2")
/-- begin a def's spec -/
local macro_rules | `(tactic| walk_at "i") => `(tactic| simp only [initS, List.map_cons, List.map_nil, List.length_cons, List.length_nil, Nat.reduceAdd, Nat.reduceSub, List.replicate, List.cons_append, List.nil_append])
def rv (es : List (Int × Int)) : List (Int × Int) := es.reverse.map far
def rot (k : Nat) (es : List (Int × Int)) : List (Int × Int) := es.drop k ++ es.take k
def ways (es : List (Int × Int)) : List (List (Int × Int)) := ((List.range es.length).map fun k => rot k es) ++ ((List.range es.length).map fun k => rot k (rv es))
def along (ls : List Ln) (es : List (Int × Int)) : List Int := es.map (plc ls) ++ [plc ls (far (lastE es))]
/-! ### rounds and rides, in plain words -/
theorem roundB_iff {ls : List Ln} {es : List (Int × Int)} : roundB ls es = true ↔ rideB ls es = true ∧ goesB ls (lastE es) (headE es) = true := by
  unfold roundB
  rw [Bool.and_eq_true]
/-! ### the least of all ways -/
end Lw

set_option maxHeartbeats 4000000
namespace Lw
open PySem Fu
local macro_rules | `(tactic| walk_at "e1") => `(tactic| first
  | with_reducible refine eo_seq ?_ | (with_reducible refine then_nx' ?_; refine ⟨?_, ?_, ?_⟩; rotate_left; · (try dsimp only [List.set, List.length_cons, List.length_nil, List.cons_append, List.nil_append, Nat.zero_add, Nat.reduceAdd]); exact rfl) | with_reducible refine then_rt ?_ | with_reducible refine eo_if ?_ | with_reducible refine eo_ret ?_ | with_reducible refine eo_set ?_ | with_reducible refine eo_asg ?_ | with_reducible refine eo_drop ?_ | with_reducible refine eo_nx ?_ | with_reducible refine eo_par ?_ | with_reducible refine eo_own ?_ | with_reducible refine eo_retN ?_ | with_reducible refine eo_for ?_ | with_reducible refine eo_retO ?_
  | with_reducible refine ev_c ?_ | (with_reducible refine ev_var ?_; refine ⟨_, rfl, ?_⟩) | with_reducible refine ev_bin ?_ | with_reducible refine ev_un ?_ | with_reducible refine ev_nil ?_ | with_reducible refine ev_cons ?_
  | with_reducible refine ev_tup ?_ | with_reducible refine ev_lst ?_ | with_reducible refine ev_call ?_ | with_reducible refine ev_callF ?_ | with_reducible refine ev_isi ?_ | with_reducible refine ev_isi2 ?_ | with_reducible refine ev_andV ?_ | with_reducible refine ev_orV ?_ | with_reducible refine ev_notV ?_
  | with_reducible refine ev_B ?_ | with_reducible refine ev_and ?_ | with_reducible refine ev_or ?_ | with_reducible refine ev_not ?_ | with_reducible refine ev_yes ?_ | with_reducible refine ev_if ?_ | with_reducible refine ev_no ?_ | with_reducible refine ev_so ?_ | with_reducible refine ev_sl ?_ | with_reducible refine ev_items ?_
  | (with_reducible refine ev_ixO ?_; refine ⟨_, _, rfl, rfl, ?_⟩) | (with_reducible refine ev_varO ?_; refine ⟨_, _, rfl, rfl, ?_⟩) | (with_reducible refine ev_lenO ?_; refine ⟨_, _, rfl, rfl, ?_⟩) | (with_reducible refine ev_scrSl ?_; refine ⟨_, rfl, ?_⟩) | (with_reducible refine ev_scrLen ?_; refine ⟨_, rfl, ?_⟩) | (with_reducible refine ev_callScr ?_; refine ⟨_, rfl, ?_⟩) | (with_reducible refine ev_OL ?_; refine ⟨_, _, rfl, rfl, ?_⟩) | with_reducible refine ev_OR ?_ | with_reducible refine ev_rep ?_ | with_reducible refine ev_listRng1 ?_ | with_reducible refine eo_setO ?_
  | with_reducible refine es_name ?_ | with_reducible refine es_tup2 ?_ | with_reducible refine es_tup3 ?_
  | with_reducible refine ed_addI ?_ | with_reducible refine ed_subI ?_ | with_reducible refine ed_cmp ?_ | with_reducible refine ed_eqI ?_ | with_reducible refine ed_neI ?_ | with_reducible refine ed_slT ?_ | with_reducible refine ed_slL ?_ | with_reducible refine ed_lenT ?_ | with_reducible refine ed_lenL ?_ | with_reducible refine ed_lenS ?_ | with_reducible refine ed_inS ?_ | with_reducible refine ed_itT ?_ | with_reducible refine ed_itL ?_ | with_reducible refine ed_tupL ?_ | with_reducible refine ed_tupT ?_ | with_reducible refine ed_listL ?_ | with_reducible refine ed_listT ?_ | with_reducible refine ed_neg ?_ | with_reducible refine ed_max ?_ | with_reducible refine ed_min ?_ | with_reducible refine ed_intB ?_
  | with_reducible refine ev_rng1 ?_ | with_reducible refine ev_rng2 ?_)
local macro_rules | `(tactic| walk_at "sd") => `(tactic| first | rfl | assumption | (simp only [decide_eq_true_eq, decide_eq_false_iff_not, Bool.not_eq_true', Bool.not_eq_false', Bool.and_eq_true, Bool.or_eq_true, List.length_map, List.length_cons, List.length_nil, List.length_append, List.length_range] at *; omega))
local macro_rules | `(tactic| walk_at "e2") => `(tactic| first
  | walk_at "e1" | with_reducible refine ⟨_, rfl, ?_⟩ | with_reducible refine ⟨_, _, rfl, ?_⟩
  | with_reducible refine And.intro (Eq.refl (List.length _)) ?_ | with_reducible refine And.intro (Nat.le_of_ble_eq_true (n := List.length _) rfl) ?_
  | with_reducible refine And.intro (Eq.refl (_ : Sx)) (?_ : Ed _ _)
  | ((with_reducible refine And.intro ?_ (And.intro ?_ (?_ : Ev _ _))); (· rfl); (· rfl))
  | ((with_reducible refine ed_ixT ?_ ?_ ?_); (· decide); (· rfl)) | ((with_reducible refine ed_ixL ?_ ?_ ?_); (· decide); (· rfl)) | ((with_reducible refine ed_at ?_ ?_ ?_); (· decide); (· rfl))
  | ((with_reducible refine ed_modI ?_ ?_); (· first | decide | omega))
  | with_reducible exact gives_nx | ((with_reducible refine gives_rt ?_); (· rfl)) | ((with_reducible refine And.intro ?_ ?_); (· exact rfl); (· with_reducible exact Eq.refl (_ : Sx))))
local macro_rules | `(tactic| walk_at "e") => `(tactic| repeat walk_at "e2")
/-- begin a def's spec -/
local macro_rules | `(tactic| walk_at "i") => `(tactic| simp only [initS, List.map_cons, List.map_nil, List.length_cons, List.length_nil, Nat.reduceAdd, Nat.reduceSub, List.replicate, List.cons_append, List.nil_append])
/-- a known truth decides -/
local macro_rules | `(tactic| walk_at "t") => `(tactic| first | ((with_reducible refine split_t ?_ ?_); (· walk_at "sd")) | ((with_reducible refine split_t' ?_ ?_); (· walk_at "sd")))
local macro_rules | `(tactic| walk_at "f") => `(tactic| first | ((with_reducible refine split_f ?_ ?_); (· walk_at "sd")) | ((with_reducible refine split_f' ?_ ?_); (· walk_at "sd")))
/-- all that is seen in a look -/
local macro_rules | `(tactic| walk_at "v") => `(tactic| (rw [sealAll_mk (by (simp only [List.set_cons_zero, List.set_cons_succ, List.map_cons, List.map_nil, sealS_none, sealS_dat, sealS_scr, sealS_own, List.getElem?_cons_zero, List.getElem?_cons_succ, sealC_lst]; rfl)) (by (simp only [List.set_cons_zero, List.set_cons_succ, List.map_cons, List.map_nil]; rfl))]))
/-! ### texts of data -/
theorem dEq_str (x y : Str) : dEq (.str x) (.str y) = some (.bool (decide (x = y))) := by
  unfold dEq
  split
  · congr 2
  · rfl
theorem dNe_str (x y : Str) : dNe (.str x) (.str y) = some (.bool (!decide (x = y))) := by
  unfold dNe
  split
  · congr 3
  · rfl
theorem dEq_str_self (x : Str) : dEq (.str x) (.str x) = some (.bool true) := by rw [dEq_str]; simp
theorem dNe_str_self (x : Str) : dNe (.str x) (.str x) = some (.bool false) := by rw [dNe_str]; simp
/-- what can be shown: its depth, its weight -/
structure Shw (n m : Nat) (d : D) : Prop where
  lay : d.canLay0 = true
  dep : d.depth ≤ n
  wt : d.weight ≤ m
  short : d.intsShort 13 = true
  sh : d.showable = true
theorem Shw.mono {n m n' m' : Nat} {d : D} (h : Shw n m d) (l : n ≤ n') (k : m ≤ m') : Shw n' m' d := ⟨h.lay, Nat.le_trans h.dep l, Nat.le_trans h.wt k, h.short, h.sh⟩
theorem shw_int {i : Int} (h : i.natAbs < 10 ^ 12) : Shw 0 40 (.int i) := by
  have hb : i.natAbs.log2 ≤ 39 := by
    by_cases z : i.natAbs = 0
    · rw [z]; decide
    · refine Nat.le_of_lt_succ ((Nat.log2_lt z).mpr ?_)
      exact Nat.lt_trans h (by decide)
  refine ⟨by simp [PyData.canLay0], by simp [PyData.depth], ?_, ?_, ?_⟩
  · simp only [PyData.weight]
    split <;> omega
  · simp only [PyData.intsShort, decide_eq_true_eq]
    exact PyData.shown_int_le h
  · simp only [PyData.showable, decide_eq_true_eq]; omega
theorem shw_ch {c : Nat} (h : c < 0x110000) : Shw 0 40 (ch c) := ⟨(fine_ch h).1, (fine_ch h).2, by simp [ch, PyData.weight], rfl, rfl⟩
theorem shw_all {n m : Nat} : ∀ {ds : List D}, (∀ d ∈ ds, Shw n m d) → PyData.canLayAll0 ds = true ∧ PyData.depthAll ds ≤ n ∧ PyData.weightAll ds ≤ ds.length * (m + 1) ∧ PyData.intsShortAll 13 ds = true ∧ PyData.showableAll ds = true
  | [], _ => ⟨rfl, Nat.zero_le _, Nat.zero_le _, rfl, rfl⟩
  | d :: ds, h => by
    obtain ⟨a, b, c, e, f⟩ := shw_all fun x hx => h x (List.mem_cons_of_mem _ hx)
    have k := h d List.mem_cons_self
    refine ⟨by simp [PyData.canLayAll0, a, k.lay], by simp only [PyData.depthAll]; exact Nat.max_le.mpr ⟨k.dep, b⟩, ?_, by simp [PyData.intsShortAll, e, k.short], by simp [PyData.showableAll, f, k.sh]⟩
    simp only [PyData.weightAll, List.length_cons]
    rw [Nat.add_mul]
    have := k.wt
    omega
theorem shw_list {n m : Nat} {ds : List D} (h : ∀ d ∈ ds, Shw n m d) : Shw (n + 1) (ds.length * (m + 1)) (.list ds) := by
  obtain ⟨a, b, c, e, f⟩ := shw_all h
  exact ⟨by simpa [PyData.canLay0] using a, by simp only [PyData.depth]; omega, by simpa only [PyData.weight] using c, by simpa only [PyData.intsShort] using e, by simpa only [PyData.showable] using f⟩
theorem shw_tup {n m : Nat} {ds : List D} (h : ∀ d ∈ ds, Shw n m d) : Shw (n + 1) (ds.length * (m + 1)) (.tuple ds) := by
  obtain ⟨a, b, c, e, f⟩ := shw_all h
  exact ⟨by simpa [PyData.canLay0] using a, by simp only [PyData.depth]; omega, by simpa only [PyData.weight] using c, by simpa only [PyData.intsShort] using e, by simpa only [PyData.showable] using f⟩
theorem shw_sq {n m : Nat} {d : D} {ds : List D} (s : Sq d ds) (h : ∀ d ∈ ds, Shw n m d) : Shw (n + 1) (ds.length * (m + 1)) d := by
  rcases s with rfl | rfl
  · exact shw_list h
  · exact shw_tup h
theorem Shw.ok {n m : Nat} {d : D} (h : Shw n m d) (hn : n ≤ 60) (hm : m ≤ 1048576) : showOk d = true := by
  unfold showOk
  have l : d.shown.length ≤ sizeLine := PyData.shown_fits (B := 13) (by decide) (by decide) (PyData.leavesShort_of_canLay0 13 d h.lay h.short) (by have := h.wt; omega)
  rw [sizeLine_eq] at l
  simp only [Bool.and_eq_true, decide_eq_true_eq, Bool.not_eq_true']
  exact ⟨⟨⟨⟨h.sh, PyData.hasDict_of_canLay d h.lay⟩, h.lay⟩, Nat.le_trans h.dep hn⟩, l⟩
theorem ed_repr {n m : Nat} {d : D} {ds : List D} {Q : D → Prop} (s : Sq d ds) (h : Shw n m d) (q : Q (.str d.shown)) (hn : n ≤ 60 := by decide) (hm : m ≤ 1048576 := by omega) : Ed (dRepr [d]) Q := by
  have ok := h.ok hn hm
  rcases s with rfl | rfl
  · exact ⟨_, by simp only [dRepr, ok, if_true], q⟩
  · exact ⟨_, by simp only [dRepr, ok, if_true], q⟩
theorem Shw.fine {n m : Nat} {d : D} (h : Shw n m d) : Fine n d := ⟨h.lay, h.dep⟩
/-! ### all tuples turned to lists -/
mutual
def listsD : D → D
  | .list xs => .list (listsDs xs)
  | .tuple xs => .list (listsDs xs)
  | d => d
def listsDs : List D → List D
  | [] => []
  | x :: xs => listsD x :: listsDs xs
end
theorem listsDs_map : ∀ xs : List D, listsDs xs = xs.map listsD
  | [] => rfl
  | x :: xs => by rw [listsDs, listsDs_map xs]; rfl
theorem lists_sq {d : D} {xs : List D} (s : Sq d xs) : listsD d = .list (xs.map listsD) := by
  rcases s with rfl | rfl <;> rw [listsD, listsDs_map]
theorem depth_mem : ∀ {xs : List D} {x : D}, x ∈ xs → x.depth ≤ PyData.depthAll xs
  | y :: ys, x, h => by
    simp only [PyData.depthAll]
    rcases List.mem_cons.mp h with rfl | h
    · exact Nat.le_max_left _ _
    · exact Nat.le_trans (depth_mem h) (Nat.le_max_right _ _)
theorem depth_sq {d : D} {xs : List D} (s : Sq d xs) : d.depth = PyData.depthAll xs + 1 := by rcases s with rfl | rfl <;> simp only [PyData.depth]
theorem x_lists : ∀ (n : Nat) (d : D), d.depth < n → m__law_lists n [d] = some (listsD d)
  | 0, _, h => absurd h (Nat.not_lt_zero _)
  | n + 1, d, h => by
    show mF 2 (g__law_lists (m__law_lists n)) [d] = _
    refine mF_of ?_; walk_at "i"; unfold g__law_lists
    walk_at "e"
    rw [isi_seq]
    refine ⟨fun h1 => ?_, fun h1 => ?_⟩
    · obtain ⟨xs, hx⟩ := Option.isSome_iff_exists.mp h1
      have s := sq_of hx
      walk_at "e"
      refine ev_mapX (xs := xs) (enc := fun z => z) (g := listsD) ?_
      walk_at "e"
      refine ed_itQ s ⟨by simp, fun z hz => ?_, ?_⟩
      · walk_at "e"
        have hd := depth_mem hz
        have := depth_sq s
        refine Ed.of (x_lists n z (by omega)) ⟨rfl, rfl⟩
      · walk_at "e"
        rw [gives_rtI, lists_sq s]
    · have h1 : seqOf d = none := by simpa using h1
      walk_at "e"
      cases d <;> first | rfl | simp [seqOf] at h1
theorem isEn_lists {d : D} {e : Int × Int} (s : IsEn d e) : IsEn (listsD d) e := by
  unfold IsEn; rw [lists_sq s]; exact sq_l _
theorem isLn_lists {d : D} {l : Ln} (s : IsLn d l) : IsLn (listsD d) l := by
  unfold IsLn; rw [lists_sq s]; exact sq_l _
theorem ride_lists {d : D} {es : List (Int × Int)} (h : IsRide d es) : IsRide (listsD d) es := by
  obtain ⟨ps, s, rfl, hp⟩ := h
  refine ⟨ps.map fun q => (listsD q.1, q.2), ?_, by rw [List.map_map]; rfl, fun q hq => ?_⟩
  · rw [lists_sq s, List.map_map, List.map_map]; exact sq_l _
  · obtain ⟨r, hr, rfl⟩ := List.mem_map.mp hq
    exact isEn_lists (hp r hr)
theorem lns_lists {d : D} {ls : List Ln} (h : Lns d ls) : Lns (listsD d) ls := by
  obtain ⟨ps, s, rfl, hp⟩ := h
  refine ⟨ps.map fun q => (listsD q.1, q.2), ?_, by rw [List.map_map]; rfl, fun q hq => ?_⟩
  · rw [lists_sq s, List.map_map, List.map_map]; exact sq_l _
  · obtain ⟨r, hr, rfl⟩ := List.mem_map.mp hq
    exact isLn_lists (hp r hr)
theorem web_lists {d : D} {p : Int} {ls : List Ln} (h : Web d p ls) : Web (listsD d) p ls := by
  obtain ⟨L, s, hL⟩ := h
  exact ⟨listsD L, by rw [lists_sq s]; exact sq_l _, lns_lists hL⟩
/-! ### how webs and rides are shown -/
theorem shw_ln {p : Int} {d : D} {l : Ln} (s : IsLn d l) (h : LnOk p l) (hp : p ≤ 1000000) : Shw 1 123 d := by
  refine shw_sq (n := 0) (m := 40) s fun x hx => ?_
  simp only [List.mem_cons, List.not_mem_nil, or_false] at hx
  have := h.a0; have := h.a1; have := h.b0; have := h.b1
  rcases hx with rfl | rfl | rfl
  · exact shw_int (by omega)
  · exact shw_int (by omega)
  · exact shw_ch h.c.ok
theorem shw_lns {p : Int} {d : D} {ls : List Ln} (h : Lns d ls) (k : ∀ l ∈ ls, LnOk p l) (hp : p ≤ 1000000) : Shw 2 (ls.length * 124) d := by
  obtain ⟨ps, s, rfl, hq⟩ := h
  have := shw_sq s (n := 1) (m := 123) fun x hx => by
    obtain ⟨q, hm, rfl⟩ := List.mem_map.mp hx
    exact shw_ln (hq q hm) (k _ (List.mem_map_of_mem hm)) hp
  simpa using this
theorem shw_web {d : D} {p : Int} {ls : List Ln} (h : Web d p ls) (k : WbOk p ls) (hp : p ≤ 1000000) : Shw 3 (2 * (ls.length * 124 + 41)) d := by
  obtain ⟨L, s, hL⟩ := h
  have := shw_sq s (n := 2) (m := ls.length * 124 + 40) fun x hx => by
    simp only [List.mem_cons, List.not_mem_nil, or_false] at hx
    rcases hx with rfl | rfl
    · exact (shw_int (by have := k.p0; omega)).mono (by decide) (by omega)
    · exact (shw_lns hL k.all hp).mono (by decide) (by omega)
  simpa using this
theorem shw_en {d : D} {e : Int × Int} (s : IsEn d e) (h1 : e.1.natAbs < 10 ^ 12) (h2 : e.2.natAbs < 10 ^ 12) : Shw 1 82 d := by
  refine shw_sq (n := 0) (m := 40) s fun x hx => ?_
  simp only [List.mem_cons, List.not_mem_nil, or_false] at hx
  rcases hx with rfl | rfl
  · exact shw_int h1
  · exact shw_int h2
theorem shw_ride {d : D} {es : List (Int × Int)} (h : IsRide d es) (k : ∀ e ∈ es, e.1.natAbs < 10 ^ 12 ∧ e.2.natAbs < 10 ^ 12) : Shw 2 (es.length * 83) d := by
  obtain ⟨ps, s, rfl, hq⟩ := h
  have := shw_sq s (n := 1) (m := 82) fun x hx => by
    obtain ⟨q, hm, rfl⟩ := List.mem_map.mp hx
    have := k _ (List.mem_map_of_mem (f := (·.2)) hm)
    exact shw_en (hq q hm) this.1 this.2
  simpa using this
end Lw

set_option maxHeartbeats 4000000
namespace Lw
open PySem Fu
local macro_rules | `(tactic| walk_at "e1") => `(tactic| first
  | with_reducible refine eo_seq ?_ | (with_reducible refine then_nx' ?_; refine ⟨?_, ?_, ?_⟩; rotate_left; · (try dsimp only [List.set, List.length_cons, List.length_nil, List.cons_append, List.nil_append, Nat.zero_add, Nat.reduceAdd]); exact rfl) | with_reducible refine then_rt ?_ | with_reducible refine eo_if ?_ | with_reducible refine eo_ret ?_ | with_reducible refine eo_set ?_ | with_reducible refine eo_asg ?_ | with_reducible refine eo_drop ?_ | with_reducible refine eo_nx ?_ | with_reducible refine eo_par ?_ | with_reducible refine eo_own ?_ | with_reducible refine eo_retN ?_ | with_reducible refine eo_for ?_ | with_reducible refine eo_retO ?_
  | with_reducible refine ev_c ?_ | (with_reducible refine ev_var ?_; refine ⟨_, rfl, ?_⟩) | with_reducible refine ev_bin ?_ | with_reducible refine ev_un ?_ | with_reducible refine ev_nil ?_ | with_reducible refine ev_cons ?_
  | with_reducible refine ev_tup ?_ | with_reducible refine ev_lst ?_ | with_reducible refine ev_call ?_ | with_reducible refine ev_callF ?_ | with_reducible refine ev_isi ?_ | with_reducible refine ev_isi2 ?_ | with_reducible refine ev_andV ?_ | with_reducible refine ev_orV ?_ | with_reducible refine ev_notV ?_
  | with_reducible refine ev_B ?_ | with_reducible refine ev_and ?_ | with_reducible refine ev_or ?_ | with_reducible refine ev_not ?_ | with_reducible refine ev_yes ?_ | with_reducible refine ev_if ?_ | with_reducible refine ev_no ?_ | with_reducible refine ev_so ?_ | with_reducible refine ev_sl ?_ | with_reducible refine ev_items ?_
  | (with_reducible refine ev_ixO ?_; refine ⟨_, _, rfl, rfl, ?_⟩) | (with_reducible refine ev_varO ?_; refine ⟨_, _, rfl, rfl, ?_⟩) | (with_reducible refine ev_lenO ?_; refine ⟨_, _, rfl, rfl, ?_⟩) | (with_reducible refine ev_scrSl ?_; refine ⟨_, rfl, ?_⟩) | (with_reducible refine ev_scrLen ?_; refine ⟨_, rfl, ?_⟩) | (with_reducible refine ev_callScr ?_; refine ⟨_, rfl, ?_⟩) | (with_reducible refine ev_OL ?_; refine ⟨_, _, rfl, rfl, ?_⟩) | with_reducible refine ev_OR ?_ | with_reducible refine ev_rep ?_ | with_reducible refine ev_listRng1 ?_ | with_reducible refine eo_setO ?_
  | with_reducible refine es_name ?_ | with_reducible refine es_tup2 ?_ | with_reducible refine es_tup3 ?_
  | with_reducible refine ed_addI ?_ | with_reducible refine ed_subI ?_ | with_reducible refine ed_cmp ?_ | with_reducible refine ed_eqI ?_ | with_reducible refine ed_neI ?_ | with_reducible refine ed_slT ?_ | with_reducible refine ed_slL ?_ | with_reducible refine ed_lenT ?_ | with_reducible refine ed_lenL ?_ | with_reducible refine ed_lenS ?_ | with_reducible refine ed_inS ?_ | with_reducible refine ed_itT ?_ | with_reducible refine ed_itL ?_ | with_reducible refine ed_tupL ?_ | with_reducible refine ed_tupT ?_ | with_reducible refine ed_listL ?_ | with_reducible refine ed_listT ?_ | with_reducible refine ed_neg ?_ | with_reducible refine ed_max ?_ | with_reducible refine ed_min ?_ | with_reducible refine ed_intB ?_)
local macro_rules | `(tactic| walk_at "e2") => `(tactic| first
  | walk_at "e1" | with_reducible refine ⟨_, rfl, ?_⟩ | with_reducible refine ⟨_, _, rfl, ?_⟩
  | with_reducible refine And.intro (Eq.refl (List.length _)) ?_ | with_reducible refine And.intro (Nat.le_of_ble_eq_true (n := List.length _) rfl) ?_
  | with_reducible refine And.intro (Eq.refl (_ : Sx)) (?_ : Ed _ _)
  | with_reducible exact gives_nx | with_reducible (refine gives_rt ?_; rfl))
local macro_rules | `(tactic| walk_at "e") => `(tactic| repeat walk_at "e2")
/-- begin a def's spec -/
local macro_rules | `(tactic| walk_at "i") => `(tactic| simp only [initS, List.map_cons, List.map_nil, List.length_cons, List.length_nil, Nat.reduceAdd, Nat.reduceSub, List.replicate, List.cons_append, List.nil_append])
namespace Sp
/-! ### the spring -/
structure Reel (b : Nat) (cs : List D) : Prop where
  ex : ∃ (f s n : Int), cs = [.int f, .int s, .int n] ∧ 0 ≤ f ∧ 0 ≤ s ∧ s < 2305843009213693951 ∧ 0 ≤ n ∧ n + b ≤ 18446744073709551616
theorem Reel.mono {a b : Nat} {cs : List D} (h : Reel a cs) (l : b ≤ a) : Reel b cs := by
  obtain ⟨f, s, n, h1, h2, h3, h4, h5, h6⟩ := h
  exact ⟨f, s, n, h1, h2, h3, h4, h5, by omega⟩
theorem log_lt {i : Int} {k : Nat} (h : i.natAbs < 2 ^ (k + 1)) : i.natAbs.log2 ≤ k := by
  by_cases z : i.natAbs = 0
  · rw [z]; simp
  · exact Nat.le_of_lt_succ ((Nat.log2_lt z).mpr h)
theorem mulW {i j : Int} (a : -170141183460469231731687303715884105728 < i ∧ i < 170141183460469231731687303715884105728) (b : -170141183460469231731687303715884105728 < j ∧ j < 170141183460469231731687303715884105728) : L2.CMulW i j := by
  unfold L2.CMulW
  have h1 : i.natAbs.log2 ≤ 126 := log_lt (by show i.natAbs < 170141183460469231731687303715884105728; omega)
  have h2 : j.natAbs.log2 ≤ 126 := log_lt (by show j.natAbs < 170141183460469231731687303715884105728; omega)
  omega
theorem divW {i j : Int} (a : 0 < j ∧ j < 170141183460469231731687303715884105728) : L2.CDivW i j := by
  unfold L2.CDivW
  have h2 : j.natAbs.log2 ≤ 126 := log_lt (by show j.natAbs < 170141183460469231731687303715884105728; omega)
  exact ⟨a.1, by omega⟩
theorem x_draw {b : Nat} {cs : List D} {many : Int} (h : Reel (b + 1) cs) (m0 : 0 < many) (m1 : many ≤ 18446744073709551616) : ∃ d cs', m__law_draw_k15 cs [.int many] = some (d, cs') ∧ ∃ v, d = .int v ∧ 0 ≤ v ∧ v < many ∧ Reel b cs' := by
  obtain ⟨f, s, n, rfl, f0, s0, s1, n0, n1⟩ := h
  unfold m__law_draw_k15; refine mIO_of ?_; walk_at "i"; unfold g__law_draw_k15
  walk_at "e"
  refine ed_at (by decide) rfl ?_
  walk_at "e"
  refine ⟨fun ht => ?_, fun ht => ?_⟩
  · walk_at "e"
    refine ed_at (by decide) rfl ?_
    walk_at "e"
    refine ed_modI m0 ?_
    walk_at "e"
    refine ed_at (by decide) rfl ?_
    walk_at "e"
    refine ed_divI (divW ⟨m0, by omega⟩) ?_
    refine ⟨0, _, rfl, rfl, ?_⟩
    walk_at "e"
    refine ⟨rfl, 0, rfl, by simp, ?_⟩
    walk_at "e"
    exact ⟨_, rfl, _, rfl, Int.emod_nonneg _ (by omega), Int.emod_lt_of_pos _ m0, f / many, s, n, rfl, Int.ediv_nonneg f0 (by omega), s0, s1, n0, by omega⟩
  · walk_at "e"
    refine ed_at (by decide) rfl ?_
    walk_at "e"
    refine ⟨0, _, rfl, rfl, ?_⟩
    walk_at "e"
    refine ⟨rfl, 2, rfl, by simp, ?_⟩
    walk_at "e"
    refine ed_at (by decide) rfl ?_
    walk_at "e"
    refine ed_at (by decide) rfl ?_
    walk_at "e"
    refine ed_mulI (mulW ⟨by omega, by omega⟩ ⟨by omega, by omega⟩) ?_
    walk_at "e"
    refine ed_modI (by decide) ?_
    walk_at "e"
    refine ed_at (by decide) rfl ?_
    walk_at "e"
    refine ed_mulI (mulW ⟨by omega, by omega⟩ ⟨by omega, by omega⟩) ?_
    walk_at "e"
    refine ed_at (by decide) rfl ?_
    walk_at "e"
    refine ed_mulI (mulW ⟨by omega, by omega⟩ ⟨by omega, by omega⟩) ?_
    walk_at "e"
    refine ed_modI (by decide) ?_
    refine ⟨0, _, rfl, rfl, ?_⟩
    walk_at "e"
    refine ⟨rfl, 1, rfl, by simp, ?_⟩
    walk_at "e"
    refine ed_at (by decide) rfl ?_
    walk_at "e"
    refine ed_divI (divW ⟨by decide, by decide⟩) ?_
    walk_at "e"
    refine ed_modI m0 ?_
    exact ⟨_, rfl, _, rfl, Int.emod_nonneg _ (by omega), Int.emod_lt_of_pos _ m0, f, _, n + 1, rfl, f0, Int.emod_nonneg _ (by decide), Int.emod_lt_of_pos _ (by decide), by omega, by omega⟩
theorem ed_abs {Q : D → Prop} {i : Int} (h : Q (.int i.natAbs)) : Ed (dAbs [.int i]) Q := ⟨_, rfl, by
  have : (if i < 0 then -i else i) = (i.natAbs : Int) := by split <;> omega
  rw [this]; exact h⟩
theorem x_spring {ns : List Int} (h : ns.length ≤ 63) : ∃ cs, m__law_spring ns = some cs ∧ Reel 4294967296 cs := by
  unfold m__law_spring; refine mScrN_of ?_; walk_at "i"; unfold g__law_spring
  walk_at "e"
  rw [cut_to (by decide), List.take_of_length_le (by simpa using h)]
  have hlen : (ns.map PyData.int).length ≤ 63 := by simpa using h
  refine eo_loop (fun i S => ∃ f st x, S = ⟨[some (.scr ns), some (.dat (.int f)), some (.dat (.int st)), x], []⟩ ∧ 0 ≤ f ∧ f < 2 ^ (200 * i) ∧ 0 ≤ st ∧ st < 2305843009213693951) ⟨_, _, _, rfl, by decide, by decide, by decide, by decide⟩ ?_ ?_
  · rintro i d S hd ⟨f, st, x, rfl, f0, f1, h0, h1⟩
    have hi : i < 63 := by
      have := (List.getElem?_eq_some_iff.mp hd).1
      omega
    obtain ⟨c, hc, rfl⟩ := List.mem_map.mp (List.mem_of_getElem? hd)
    have hp : (2 : Int) ^ (200 * (i + 1)) = 2 ^ (200 * i) * 2 ^ 200 := by rw [← Int.pow_add]; congr 1
    have hpos : (0 : Int) < 2 ^ (200 * i) := Int.pow_pos (by decide)
    have hbig : (10 : Int) ^ 60 < 2 ^ 200 := by decide
    have mono : f < 2 ^ (200 * (i + 1)) := by
      rw [hp]
      have : (2 : Int) ^ (200 * i) * 1 ≤ 2 ^ (200 * i) * 2 ^ 200 := Int.mul_le_mul_of_nonneg_left (by decide) (by omega)
      omega
    walk_at "e"
    refine ed_abs ?_
    walk_at "e"
    refine ed_powI (by decide) ?_
    walk_at "e"
    refine ⟨fun ht => ?_, fun ht => ?_⟩
    · walk_at "e"
      refine ed_powI (by decide) ?_
      refine ed_mulI ?_ ?_
      · unfold L2.CMulW
        have e1 : f.natAbs.log2 ≤ 200 * i := log_lt (by
          have : (f.natAbs : Int) < ((2 ^ (200 * i + 1) : Nat) : Int) := by
            push_cast
            rw [Int.pow_succ]
            omega
          exact Int.ofNat_lt.mp this)
        have e2 : ((10 : Int) ^ (60 : Int).toNat).natAbs.log2 ≤ 200 := by decide
        omega
      walk_at "e"
      refine ed_abs ?_
      walk_at "e"
      refine ed_powI (by decide) ?_
      refine ed_modI (by decide) ?_
      walk_at "e"
      refine ed_mulI (mulW ⟨by omega, by omega⟩ ⟨by decide, by decide⟩) ?_
      walk_at "e"
      refine ed_modI (by decide) ?_
      walk_at "e"
      refine ed_modI (by decide) ?_
      refine ⟨_, rfl, _, _, _, rfl, ?_, ?_, Int.emod_nonneg _ (by decide), Int.emod_lt_of_pos _ (by decide)⟩
      · have := Int.emod_nonneg (c.natAbs : Int) (show (10 : Int) ^ (60 : Int).toNat ≠ 0 by decide)
        have := Int.mul_nonneg f0 (show (0 : Int) ≤ 10 ^ (60 : Int).toNat by decide)
        omega
      · have a1 := Int.emod_lt_of_pos (c.natAbs : Int) (show (0 : Int) < 10 ^ (60 : Int).toNat by decide)
        have a2 : (f + 1) * (10 : Int) ^ (60 : Int).toNat ≤ 2 ^ (200 * i) * 10 ^ (60 : Int).toNat := Int.mul_le_mul_of_nonneg_right (by omega) (by decide)
        have a3 : (2 : Int) ^ (200 * i) * 10 ^ (60 : Int).toNat ≤ 2 ^ (200 * i) * 2 ^ 200 := Int.mul_le_mul_of_nonneg_left (by decide) (by omega)
        rw [hp]
        rw [Int.add_mul, Int.one_mul] at a2
        omega
    · walk_at "e"
      refine ed_mulI (mulW ⟨by omega, by omega⟩ ⟨by decide, by decide⟩) ?_
      walk_at "e"
      refine ed_modI (by decide) ?_
      walk_at "e"
      refine ed_modI (by decide) ?_
      exact ⟨_, rfl, _, _, _, rfl, f0, mono, Int.emod_nonneg _ (by decide), Int.emod_lt_of_pos _ (by decide)⟩
  · rintro S ⟨f, st, x, rfl, f0, f1, h0, h1⟩
    walk_at "e"
    exact ⟨_, _, _, rfl, rfl, f, st, 0, rfl, f0, h0, h1, by decide, by decide⟩
end Sp
end Lw

set_option maxHeartbeats 4000000
namespace Lw
open PySem Fu
local macro_rules | `(tactic| walk_at "e1") => `(tactic| first
  | with_reducible refine eo_seq ?_ | (with_reducible refine then_nx' ?_; refine ⟨?_, ?_, ?_⟩; rotate_left; · (try dsimp only [List.set, List.length_cons, List.length_nil, List.cons_append, List.nil_append, Nat.zero_add, Nat.reduceAdd]); exact rfl) | with_reducible refine then_rt ?_ | with_reducible refine eo_if ?_ | with_reducible refine eo_ret ?_ | with_reducible refine eo_set ?_ | with_reducible refine eo_asg ?_ | with_reducible refine eo_drop ?_ | with_reducible refine eo_nx ?_ | with_reducible refine eo_par ?_ | with_reducible refine eo_own ?_ | with_reducible refine eo_retN ?_ | with_reducible refine eo_for ?_ | with_reducible refine eo_retO ?_
  | with_reducible refine ev_c ?_ | (with_reducible refine ev_var ?_; refine ⟨_, rfl, ?_⟩) | with_reducible refine ev_bin ?_ | with_reducible refine ev_un ?_ | with_reducible refine ev_nil ?_ | with_reducible refine ev_cons ?_
  | with_reducible refine ev_tup ?_ | with_reducible refine ev_lst ?_ | with_reducible refine ev_call ?_ | with_reducible refine ev_callF ?_ | with_reducible refine ev_isi ?_ | with_reducible refine ev_isi2 ?_ | with_reducible refine ev_andV ?_ | with_reducible refine ev_orV ?_ | with_reducible refine ev_notV ?_
  | with_reducible refine ev_B ?_ | with_reducible refine ev_and ?_ | with_reducible refine ev_or ?_ | with_reducible refine ev_not ?_ | with_reducible refine ev_yes ?_ | with_reducible refine ev_if ?_ | with_reducible refine ev_no ?_ | with_reducible refine ev_so ?_ | with_reducible refine ev_sl ?_ | with_reducible refine ev_items ?_
  | (with_reducible refine ev_ixO ?_; refine ⟨_, _, rfl, rfl, ?_⟩) | (with_reducible refine ev_varO ?_; refine ⟨_, _, rfl, rfl, ?_⟩) | (with_reducible refine ev_lenO ?_; refine ⟨_, _, rfl, rfl, ?_⟩) | (with_reducible refine ev_scrSl ?_; refine ⟨_, rfl, ?_⟩) | (with_reducible refine ev_scrLen ?_; refine ⟨_, rfl, ?_⟩) | (with_reducible refine ev_callScr ?_; refine ⟨_, rfl, ?_⟩) | (with_reducible refine ev_OL ?_; refine ⟨_, _, rfl, rfl, ?_⟩) | with_reducible refine ev_OR ?_ | with_reducible refine ev_rep ?_ | with_reducible refine ev_listRng1 ?_ | with_reducible refine eo_setO ?_
  | with_reducible refine es_name ?_ | with_reducible refine es_tup2 ?_ | with_reducible refine es_tup3 ?_
  | with_reducible refine ed_addI ?_ | with_reducible refine ed_subI ?_ | with_reducible refine ed_cmp ?_ | with_reducible refine ed_eqI ?_ | with_reducible refine ed_neI ?_ | with_reducible refine ed_slT ?_ | with_reducible refine ed_slL ?_ | with_reducible refine ed_lenT ?_ | with_reducible refine ed_lenL ?_ | with_reducible refine ed_lenS ?_ | with_reducible refine ed_inS ?_ | with_reducible refine ed_itT ?_ | with_reducible refine ed_itL ?_ | with_reducible refine ed_tupL ?_ | with_reducible refine ed_tupT ?_ | with_reducible refine ed_listL ?_ | with_reducible refine ed_listT ?_ | with_reducible refine ed_neg ?_ | with_reducible refine ed_max ?_ | with_reducible refine ed_min ?_ | with_reducible refine ed_intB ?_)
local macro_rules | `(tactic| walk_at "e2") => `(tactic| first
  | walk_at "e1" | with_reducible refine ⟨_, rfl, ?_⟩ | with_reducible refine ⟨_, _, rfl, ?_⟩
  | with_reducible refine And.intro (Eq.refl (List.length _)) ?_ | with_reducible refine And.intro (Nat.le_of_ble_eq_true (n := List.length _) rfl) ?_
  | with_reducible refine And.intro (Eq.refl (_ : Sx)) (?_ : Ed _ _)
  | with_reducible exact gives_nx | with_reducible (refine gives_rt ?_; rfl))
local macro_rules | `(tactic| walk_at "e") => `(tactic| repeat walk_at "e2")
/-- begin a def's spec -/
local macro_rules | `(tactic| walk_at "i") => `(tactic| simp only [initS, List.map_cons, List.map_nil, List.length_cons, List.length_nil, Nat.reduceAdd, Nat.reduceSub, List.replicate, List.cons_append, List.nil_append])
namespace Sp
/-! ### the circle that the law plants -/
def lastN (sg : List Nat) : Nat := sg.getLast?.getD 0
def headN (sg : List Nat) : Nat := sg.head?.getD 0
structure Signs (sg : List Nat) : Prop where
  all : ∀ c ∈ sg, 97 ≤ c ∧ c ≤ 100
  adj : ∀ i a b, sg[i]? = some a → sg[i + 1]? = some b → a ≠ b
/-- the line at one step of the circle -/
def stepLn (n : Nat) (sp : List Int) (sg : List Nat) (i : Nat) (s : Int) : Ln :=
  if s = 0 then (sp.getD i 0, sp.getD ((i + 1) % n) 0, sg.getD i 0) else (sp.getD ((i + 1) % n) 0, sp.getD i 0, sg.getD i 0)
structure Half (p : Int) (first n k : Nat) (sp : List Int) (sg : List Nat) (L : List Nat) (qs : List (Option Ln)) (es : List (Int × Int)) : Prop where
  len : L.length + k = n
  nd : L.Nodup
  lt : ∀ m ∈ L, m < n
  qlen : qs.length = n
  free : ∀ m ∈ L, qs[m]? = some none
  full : ∀ m, m < n → m ∉ L → ∃ l, qs[m]? = some (some l) ∧ LnOk p l
  elen : es.length = k
  at' : ∀ i, i < k → ∃ (m : Nat) (s : Int), es[i]? = some (((first + m : Nat) : Int), s) ∧ m < n ∧ m ∉ L ∧ (s = 0 ∨ s = 1) ∧ qs[m]? = some (some (stepLn n sp sg i s))
  end' : (es.map Prod.fst).Nodup
  sub : ∀ e ∈ es, ∃ m : Nat, e.1 = ((first + m : Nat) : Int) ∧ m < n ∧ m ∉ L
theorem Half.step {p : Int} {first n k : Nat} {sp : List Int} {sg L : List Nat} {qs : List (Option Ln)} {es : List (Int × Int)} {v m : Nat} {s : Int} (h : Half p first n k sp sg L qs es) (hv : L[v]? = some m) (hs : s = 0 ∨ s = 1) (hl : LnOk p (stepLn n sp sg k s)) :
    Half p first n (k + 1) sp sg (L.eraseIdx v) (qs.set m (some (stepLn n sp sg k s))) (es ++ [(((first + m : Nat) : Int), s)]) := by
  obtain ⟨hvl, hve⟩ := List.getElem?_eq_some_iff.mp hv
  have hm : m ∈ L := List.mem_of_getElem? hv
  have hmn := h.lt m hm
  have hne : m ∉ L.eraseIdx v := by
    intro z
    rw [List.mem_eraseIdx_iff_getElem?] at z
    obtain ⟨i, hi, he⟩ := z
    obtain ⟨hil, hie⟩ := List.getElem?_eq_some_iff.mp he
    exact hi ((List.getElem_inj h.nd).mp (hie.trans hve.symm))
  have hsub : ∀ x ∈ L.eraseIdx v, x ∈ L := fun x hx => List.mem_of_mem_eraseIdx hx
  have hback : ∀ x ∈ L, x ≠ m → x ∈ L.eraseIdx v := fun x hx hxm => by
    rw [List.mem_eraseIdx_iff_getElem?]
    obtain ⟨i, hi⟩ := List.mem_iff_getElem?.mp hx
    refine ⟨i, fun e => ?_, hi⟩
    subst e
    rw [hv] at hi
    cases hi; exact hxm rfl
  refine ⟨?_, h.nd.sublist (List.eraseIdx_sublist L v), fun x hx => h.lt x (hsub x hx), by rw [List.length_set]; exact h.qlen, fun x hx => ?_, fun x hx hxl => ?_, ?_, fun i hi => ?_, ?_, fun e he => ?_⟩
  · rw [List.length_eraseIdx, if_pos hvl]
    have := h.len
    omega
  · rw [List.getElem?_set_ne (fun e : m = x => hne (by rw [e]; exact hx))]
    exact h.free x (hsub x hx)
  · by_cases e : x = m
    · subst e
      exact ⟨_, List.getElem?_set_self (by rw [h.qlen]; exact hx), hl⟩
    · rw [List.getElem?_set_ne (fun z => e z.symm)]
      exact h.full x hx fun z => hxl (hback x z e)
  · rw [List.length_append, h.elen]; rfl
  · by_cases hik : i < k
    · obtain ⟨x, t, h1, h2, h3, h4, h5⟩ := h.at' i hik
      refine ⟨x, t, by rw [List.getElem?_append_left (by rw [h.elen]; exact hik)]; exact h1, h2, fun z => h3 (hsub x z), h4, ?_⟩
      rw [List.getElem?_set_ne (fun z : m = x => h3 (by rw [← z]; exact hm))]
      exact h5
    · have : i = k := by omega
      subst this
      refine ⟨m, s, ?_, hmn, hne, hs, List.getElem?_set_self (by rw [h.qlen]; exact hmn)⟩
      rw [List.getElem?_append_right (by rw [h.elen]; exact Nat.le_refl _), h.elen, Nat.sub_self]; rfl
  · rw [List.map_append, List.nodup_append]
    refine ⟨h.end', by simp, fun a ha c hc => ?_⟩
    obtain ⟨e, he, rfl⟩ := List.mem_map.mp ha
    have hc : c = ((first + m : Nat) : Int) := by simpa using hc
    obtain ⟨x, h1, h2, h3⟩ := h.sub e he
    intro z
    have : x = m := by omega
    exact h3 (this ▸ hm)
  · rcases List.mem_append.mp he with he | he
    · obtain ⟨x, h1, h2, h3⟩ := h.sub e he
      exact ⟨x, h1, h2, fun z => h3 (hsub x z)⟩
    · rw [List.mem_singleton.mp he]
      exact ⟨m, rfl, hmn, hne⟩
structure Circ (p : Int) (first n : Nat) (sp : List Int) (sg : List Nat) (ks : List Ln) (es : List (Int × Int)) : Prop where
  spOk : ∀ x ∈ sp, 0 ≤ x ∧ x < p
  spl : sp.length = n
  sgOk : Signs sg
  sgl : sg.length = n
  ends : lastN sg ≠ headN sg
  half : Half p first n n sp sg [] (ks.map some) es
theorem all_some {α : Type} : ∀ {qs : List (Option α)}, (∀ q ∈ qs, ∃ l, q = some l) → ∃ ks : List α, qs = ks.map some
  | [], _ => ⟨[], rfl⟩
  | q :: qs, h => by
    obtain ⟨l, rfl⟩ := h q List.mem_cons_self
    obtain ⟨ks, rfl⟩ := all_some fun x hx => h x (List.mem_cons_of_mem _ hx)
    exact ⟨l :: ks, rfl⟩
theorem map_erase {α β : Type} (f : α → β) : ∀ (l : List α) (i : Nat), (l.map f).eraseIdx i = (l.eraseIdx i).map f
  | [], i => rfl
  | a :: l, 0 => rfl
  | a :: l, i + 1 => by
    show f a :: (l.map f).eraseIdx i = f a :: (l.eraseIdx i).map f
    rw [map_erase f l i]
/-! ### a planted round -/
theorem Circ.at {p : Int} {n : Nat} {sp : List Int} {sg : List Nat} {ks more : List Ln} {es : List (Int × Int)} (h : Circ p 0 n sp sg ks es) {i : Nat} (hi : i < n) :
    ∃ e, es[i]? = some e ∧ EndOk (ks ++ more).length e ∧ plc (ks ++ more) e = sp.getD i 0 ∧ plc (ks ++ more) (far e) = sp.getD ((i + 1) % n) 0 ∧ cmpy (ks ++ more) e = sg.getD i 0 := by
  obtain ⟨m, s, h1, h2, _, hs, h5⟩ := h.half.at' i hi
  have hk : ks.length = n := by have := h.half.qlen; rwa [List.length_map] at this
  rw [Nat.zero_add] at h1
  have h6 : (ks ++ more)[m]? = some (stepLn n sp sg i s) := by
    rw [List.getElem?_append_left (by omega)]
    rw [List.getElem?_map] at h5
    obtain ⟨l, e1, e2⟩ := Option.map_eq_some_iff.mp h5
    cases e2
    exact e1
  refine ⟨_, h1, ⟨by simp, by simp; omega, by simp only; omega, by simp only; omega⟩, ?_, ?_, ?_⟩
  · unfold plc
    simp only [Int.toNat_natCast, h6]
    rcases hs with rfl | rfl <;> simp [sideOf, stepLn]
  · unfold plc far
    simp only [Int.toNat_natCast, h6]
    rcases hs with rfl | rfl <;> simp [sideOf, stepLn]
  · unfold cmpy
    simp only [Int.toNat_natCast, h6]
    rcases hs with rfl | rfl <;> simp [stepLn]
end Sp
end Lw

set_option maxHeartbeats 4000000
namespace Lw
open PySem Fu
local macro_rules | `(tactic| walk_at "e1") => `(tactic| first
  | with_reducible refine eo_seq ?_ | (with_reducible refine then_nx' ?_; refine ⟨?_, ?_, ?_⟩; rotate_left; · (try dsimp only [List.set, List.length_cons, List.length_nil, List.cons_append, List.nil_append, Nat.zero_add, Nat.reduceAdd]); exact rfl) | with_reducible refine then_rt ?_ | with_reducible refine eo_if ?_ | with_reducible refine eo_ret ?_ | with_reducible refine eo_set ?_ | with_reducible refine eo_asg ?_ | with_reducible refine eo_drop ?_ | with_reducible refine eo_nx ?_ | with_reducible refine eo_par ?_ | with_reducible refine eo_own ?_ | with_reducible refine eo_retN ?_ | with_reducible refine eo_for ?_ | with_reducible refine eo_retO ?_
  | with_reducible refine ev_c ?_ | (with_reducible refine ev_var ?_; refine ⟨_, rfl, ?_⟩) | with_reducible refine ev_bin ?_ | with_reducible refine ev_un ?_ | with_reducible refine ev_nil ?_ | with_reducible refine ev_cons ?_
  | with_reducible refine ev_tup ?_ | with_reducible refine ev_lst ?_ | with_reducible refine ev_call ?_ | with_reducible refine ev_callF ?_ | with_reducible refine ev_isi ?_ | with_reducible refine ev_isi2 ?_ | with_reducible refine ev_andV ?_ | with_reducible refine ev_orV ?_ | with_reducible refine ev_notV ?_
  | with_reducible refine ev_B ?_ | with_reducible refine ev_and ?_ | with_reducible refine ev_or ?_ | with_reducible refine ev_not ?_ | with_reducible refine ev_yes ?_ | with_reducible refine ev_if ?_ | with_reducible refine ev_no ?_ | with_reducible refine ev_so ?_ | with_reducible refine ev_sl ?_ | with_reducible refine ev_items ?_
  | (with_reducible refine ev_ixO ?_; refine ⟨_, _, rfl, rfl, ?_⟩) | (with_reducible refine ev_varO ?_; refine ⟨_, _, rfl, rfl, ?_⟩) | (with_reducible refine ev_lenO ?_; refine ⟨_, _, rfl, rfl, ?_⟩) | (with_reducible refine ev_scrSl ?_; refine ⟨_, rfl, ?_⟩) | (with_reducible refine ev_scrLen ?_; refine ⟨_, rfl, ?_⟩) | (with_reducible refine ev_callScr ?_; refine ⟨_, rfl, ?_⟩) | (with_reducible refine ev_OL ?_; refine ⟨_, _, rfl, rfl, ?_⟩) | with_reducible refine ev_OR ?_ | with_reducible refine ev_rep ?_ | with_reducible refine ev_listRng1 ?_ | with_reducible refine eo_setO ?_
  | with_reducible refine es_name ?_ | with_reducible refine es_tup2 ?_ | with_reducible refine es_tup3 ?_
  | with_reducible refine ed_addI ?_ | with_reducible refine ed_subI ?_ | with_reducible refine ed_cmp ?_ | with_reducible refine ed_eqI ?_ | with_reducible refine ed_neI ?_ | with_reducible refine ed_slT ?_ | with_reducible refine ed_slL ?_ | with_reducible refine ed_lenT ?_ | with_reducible refine ed_lenL ?_ | with_reducible refine ed_lenS ?_ | with_reducible refine ed_inS ?_ | with_reducible refine ed_itT ?_ | with_reducible refine ed_itL ?_ | with_reducible refine ed_tupL ?_ | with_reducible refine ed_tupT ?_ | with_reducible refine ed_listL ?_ | with_reducible refine ed_listT ?_ | with_reducible refine ed_neg ?_ | with_reducible refine ed_max ?_ | with_reducible refine ed_min ?_ | with_reducible refine ed_intB ?_
  | with_reducible refine ev_rng1 ?_ | with_reducible refine ev_rng2 ?_)
local macro_rules | `(tactic| walk_at "sd") => `(tactic| first | rfl | assumption | (simp only [decide_eq_true_eq, decide_eq_false_iff_not, Bool.not_eq_true', Bool.not_eq_false', Bool.and_eq_true, Bool.or_eq_true, List.length_map, List.length_cons, List.length_nil, List.length_append, List.length_range] at *; omega))
local macro_rules | `(tactic| walk_at "e2") => `(tactic| first
  | walk_at "e1" | with_reducible refine ⟨_, rfl, ?_⟩ | with_reducible refine ⟨_, _, rfl, ?_⟩
  | with_reducible refine And.intro (Eq.refl (List.length _)) ?_ | with_reducible refine And.intro (Nat.le_of_ble_eq_true (n := List.length _) rfl) ?_
  | with_reducible refine And.intro (Eq.refl (_ : Sx)) (?_ : Ed _ _)
  | ((with_reducible refine And.intro ?_ (And.intro ?_ (?_ : Ev _ _))); (· rfl); (· rfl))
  | ((with_reducible refine ed_ixT ?_ ?_ ?_); (· decide); (· rfl)) | ((with_reducible refine ed_ixL ?_ ?_ ?_); (· decide); (· rfl)) | ((with_reducible refine ed_at ?_ ?_ ?_); (· decide); (· rfl))
  | ((with_reducible refine ed_modI ?_ ?_); (· first | decide | omega))
  | with_reducible exact gives_nx | ((with_reducible refine gives_rt ?_); (· rfl)) | ((with_reducible refine And.intro ?_ ?_); (· exact rfl); (· with_reducible exact Eq.refl (_ : Sx))))
local macro_rules | `(tactic| walk_at "e") => `(tactic| repeat walk_at "e2")
/-- begin a def's spec -/
local macro_rules | `(tactic| walk_at "i") => `(tactic| simp only [initS, List.map_cons, List.map_nil, List.length_cons, List.length_nil, Nat.reduceAdd, Nat.reduceSub, List.replicate, List.cons_append, List.nil_append])
/-- a known truth decides -/
local macro_rules | `(tactic| walk_at "t") => `(tactic| first | ((with_reducible refine split_t ?_ ?_); (· walk_at "sd")) | ((with_reducible refine split_t' ?_ ?_); (· walk_at "sd")))
local macro_rules | `(tactic| walk_at "f") => `(tactic| first | ((with_reducible refine split_f ?_ ?_); (· walk_at "sd")) | ((with_reducible refine split_f' ?_ ?_); (· walk_at "sd")))
/-- all that is seen in a look -/
local macro_rules | `(tactic| walk_at "v") => `(tactic| (rw [sealAll_mk (by (simp only [List.set_cons_zero, List.set_cons_succ, List.map_cons, List.map_nil, sealS_none, sealS_dat, sealS_scr, sealS_own, List.getElem?_cons_zero, List.getElem?_cons_succ, sealC_lst]; rfl)) (by (simp only [List.set_cons_zero, List.set_cons_succ, List.map_cons, List.map_nil]; rfl))]))
theorem ev_chain {S : Sx} {f f' : D → D → Option D} {ga gb gc : M D} {Q : D → Sx → Prop} (h : Ev (ga S) fun x S1 => Ev (gb S1) fun y S2 => Ed (f x y) fun b => ∃ c, b = .bool c ∧ (c = true → Ev (gc S2) fun z S3 => Ed (f' y z) fun r => Q r S3) ∧ (c = false → Q (.bool false) S2)) : Ev (gChain f f' ga gb gc S) Q := by
  obtain ⟨x, S1, e1, y, S2, e2, b, e3, c, rfl, h1, h2⟩ := h
  cases c with
  | true =>
    obtain ⟨z, S3, e4, r, e5, q⟩ := h1 rfl
    exact ⟨r, S3, by simp only [gChain, e1, e2, e3, e4, e5, Option.bind_some], q⟩
  | false => exact ⟨_, S2, by simp only [gChain, e1, e2, e3, Option.bind_some], h2 rfl⟩
/-! ### the law's own looks -/
theorem allE_range (n : Nat) : (List.range (2 * n)).map (fun k : Nat => (((k / 2 : Nat) : Int), ((k % 2 : Nat) : Int))) = allE n := by
  unfold allE
  induction n with
  | zero => rfl
  | succ n ih =>
    rw [show 2 * (n + 1) = 2 * n + 1 + 1 by omega, List.range_succ, List.range_succ, List.range_succ, List.map_append, List.map_append, ih, List.flatMap_append]
    simp only [List.map_cons, List.map_nil, List.flatMap_cons, List.flatMap_nil, List.append_nil, List.append_assoc, List.cons_append, List.nil_append]
    rw [show 2 * n / 2 = n by omega, show 2 * n % 2 = 0 by omega, show (2 * n + 1) / 2 = n by omega, show (2 * n + 1) % 2 = 1 by omega]
    rfl
theorem x__law_all_ends {w : D} {p : Int} {ls : List Ln} (hw : Web w p ls) (h : ls.length ≤ 1000000) : m__law_all_ends [w] = some (.list ((allE ls.length).map en)) := by
  obtain ⟨L, s, hL⟩ := hw
  obtain ⟨xs, sx, hl⟩ := lns_len hL
  unfold m__law_all_ends; refine mF_of ?_; walk_at "i"; unfold g__law_all_ends
  walk_at "e"
  refine ev_mapX (xs := List.range (2 * ls.length)) (enc := fun k : Nat => .int (k : Int)) (g := fun k : Nat => en (((k / 2 : Nat) : Int), ((k % 2 : Nat) : Int))) ?_
  walk_at "e"
  refine ed_ixQ s (by decide) rfl ?_
  walk_at "e"
  refine ed_lenQ sx ?_
  walk_at "e"
  refine ed_mulI (Sp.mulW ⟨by decide, by decide⟩ ⟨by omega, by omega⟩) ?_
  walk_at "e"
  refine ⟨by omega, by omega, ?_, fun k hk => ?_, ?_⟩
  · rw [hl, rng0, show ((2 : Int) * (ls.length : Int)).toNat = 2 * ls.length by omega]
  · walk_at "e"
    refine ed_divI (Sp.divW ⟨by decide, by decide⟩) ?_
    walk_at "e"
  · walk_at "e"
    rw [gives_rtI, ← allE_range, List.map_map]; rfl
theorem x__law_at {w : D} {p : Int} {ls : List Ln} {d : D} {e : Int × Int} (hw : Web w p ls) (s : IsEn d e) (h : EndOk ls.length e) : m__law_at [w, d] = some (.int (plc ls e)) := by
  obtain ⟨L, sw, hL⟩ := hw
  obtain ⟨l, hl, _⟩ := end_line rfl h
  obtain ⟨xs, x, sx, hxl, hx, hln⟩ := line_at hL hl
  unfold m__law_at; refine mF_of ?_; walk_at "i"; unfold g__law_at
  walk_at "e"
  refine ed_ixQ sw (by decide) rfl ?_
  walk_at "e"
  refine ed_ixQ s (by decide) rfl ?_
  walk_at "e"
  refine ed_ixQ sx h.1 hx ?_
  walk_at "e"
  refine ed_ixQ s (by decide) rfl ?_
  walk_at "e"
  have h2 : e.2 = 0 ∨ e.2 = 1 := by have := h.2.2.1; have := h.2.2.2; omega
  unfold plc; rw [hl]
  rcases h2 with h2 | h2 <;> rw [h2] <;> exact ed_ixQ hln (by decide) rfl rfl
theorem x__law_other {d : D} {e : Int × Int} (s : IsEn d e) : m__law_other [d] = some (en (far e)) := by
  unfold m__law_other; refine mF_of ?_; walk_at "i"; unfold g__law_other
  walk_at "e"
  refine ed_ixQ s (by decide) rfl ?_
  walk_at "e"
  refine ed_ixQ s (by decide) rfl ?_
  walk_at "e"
theorem x__law_goes {w : D} {p : Int} {ls : List Ln} {a b : D} {e f : Int × Int} (hw : Web w p ls) (h : WbOk p ls) (sa : IsEn a e) (sb : IsEn b f) (he : EndOk ls.length e) (hf : EndOk ls.length f) : m__law_goes [w, a, b] = some (.bool (goesB ls e f)) := by
  obtain ⟨L, sw, hL⟩ := id hw
  obtain ⟨l, hl, _⟩ := end_line rfl he
  obtain ⟨xs, x, sx, hxl, hx, hln⟩ := line_at hL hl
  obtain ⟨l2, hl2, _⟩ := end_line rfl hf
  obtain ⟨xs2, x2, sx2, hxl2, hx2, hln2⟩ := line_at hL hl2
  unfold m__law_goes; refine mF_of ?_; walk_at "i"; unfold g__law_goes goesB
  walk_at "e"
  refine Ed.of (x__law_other sa) ?_
  walk_at "e"
  refine Ed.of (x__law_at hw (isEn_en _) he.far) ?_
  walk_at "e"
  refine Ed.of (x__law_at hw sb hf) ?_
  walk_at "e"
  refine ⟨fun ht => ?_, fun ht => ?_⟩
  · walk_at "e"
    simp only [Bool.not_eq_true', decide_eq_false_iff_not] at ht
    simp [ht]
  · walk_at "e"
    refine ed_ixQ sw (by decide) rfl ?_
    walk_at "e"
    refine ed_ixQ sa (by decide) rfl ?_
    walk_at "e"
    refine ed_ixQ sx he.1 hx ?_
    walk_at "e"
    refine ed_ixQ hln (by decide) rfl ?_
    walk_at "e"
    refine ed_ixQ sw (by decide) rfl ?_
    walk_at "e"
    refine ed_ixQ sb (by decide) rfl ?_
    walk_at "e"
    refine ed_ixQ sx2 hf.1 hx2 ?_
    walk_at "e"
    refine ed_ixQ hln2 (by decide) rfl ?_
    have e1 : cmpy ls e = l.2.2 := by unfold cmpy; rw [hl]
    have e2 : cmpy ls f = l2.2.2 := by unfold cmpy; rw [hl2]
    refine Ed.of (dNe_ch (by rw [← e1]; exact cmpy_ok h he) (by rw [← e2]; exact cmpy_ok h hf)) ?_
    simp only [Bool.not_eq_false', decide_eq_true_eq] at ht
    rw [gives_rtI, e1, e2]
    simp [ht]
/-- a list that is empty or not -/
theorem ed_ne_nil {n : Nat} {xs : List D} {Q : D → Prop} (h : ∀ x ∈ xs, Fine n x) (q : Q (.bool !decide (xs = []))) (hn : n ≤ 60 := by decide) : Ed (dNe (.list xs) (.list [])) Q := by
  refine ⟨_, ?_, q⟩
  unfold dNe
  rw [if_pos ⟨(fine_list h).shaped (by omega), (fine_list (n := 0) (ds := []) (fun _ h => nomatch h)).shaped⟩]
  cases xs <;> simp [PyData.eqv, PyData.eqvAll]
theorem ed_eq_nil {n : Nat} {xs : List D} {Q : D → Prop} (h : ∀ x ∈ xs, Fine n x) (q : Q (.bool (decide (xs = [])))) (hn : n ≤ 60 := by decide) : Ed (dEq (.list xs) (.list [])) Q := by
  refine ⟨_, ?_, q⟩
  unfold dEq
  rw [if_pos ⟨(fine_list h).shaped (by omega), (fine_list (n := 0) (ds := []) (fun _ h => nomatch h)).shaped⟩]
  cases xs <;> simp [PyData.eqv, PyData.eqvAll]
theorem fine_mem {n : Nat} {d : D} {xs : List D} (s : Sq d xs) (h : Fine n d) : ∀ x ∈ xs, Fine n x := by
  intro x hx
  have hc : PyData.canLayAll0 xs = true := by
    have := h.1
    rcases s with rfl | rfl <;> simpa [PyData.canLay0] using this
  refine ⟨?_, by have := depth_mem hx; have := depth_sq s; have := h.2; omega⟩
  clear s h
  induction xs with
  | nil => cases hx
  | cons y ys ih =>
    have c : y.canLay0 = true ∧ PyData.canLayAll0 ys = true := by simpa [PyData.canLayAll0] using hc
    rcases List.mem_cons.mp hx with rfl | hx
    · exact c.1
    · exact ih hx c.2
theorem x__law_is_end {w : D} {p : Int} {ls : List Ln} (hw : Web w p ls) (d : D) (hf : Fine 50 d) : m__law_is_end_k15 [w, d] = some (.bool (endD ls.length d)) := by
  obtain ⟨L, sw, hL⟩ := hw
  obtain ⟨ys, sy, hl⟩ := lns_len hL
  unfold m__law_is_end_k15; refine mF_of ?_; walk_at "i"; unfold g__law_is_end_k15
  walk_at "e"
  rw [isi_seq]
  refine ⟨fun h1 => ?_, fun h1 => ?_⟩
  rotate_left
  · walk_at "t"
    walk_at "e"
    have h1 : seqOf d = none := by simpa using h1
    unfold endD; rw [h1]
    simp
  obtain ⟨xs, hx⟩ := Option.isSome_iff_exists.mp (show (seqOf d).isSome = true by simpa using h1)
  have s := sq_of hx
  walk_at "e"
  refine ed_lenQ s ?_
  walk_at "e"
  refine ⟨fun hn => ?_, fun hn => ?_⟩
  · walk_at "e"
    unfold endD; rw [hx]
    simp only [Bool.not_eq_true', decide_eq_false_iff_not] at hn
    rw [gives_rtI]
    split
    · rename_i e; cases e; simp at hn
    · rfl
  simp only [Bool.not_eq_false', decide_eq_true_eq] at hn
  obtain ⟨a, b, rfl⟩ : ∃ a b, xs = [a, b] := by
    match xs, hn with
    | [a, b], _ => exact ⟨a, b, rfl⟩
  walk_at "e"
  refine ev_lcX (xs := [a, b]) (enc := fun z => z) (b := fun z => isT "bool" z || !isT "int" z) (g := fun z => z) ?_
  walk_at "e"
  refine ed_itQ s ⟨rfl, fun z hz => ?_, ?_⟩
  · walk_at "e"
    refine ⟨fun hb => ?_, fun hb => ?_⟩
    · walk_at "e"
      rw [hb]
      refine ⟨rfl, rfl, fun _ => ?_⟩
      walk_at "e"
    · rw [hb]
      refine ⟨rfl, rfl, fun _ => ?_⟩
      walk_at "e"
  rw [List.map_id']
  walk_at "e"
  refine ed_ne_nil (n := 50) (fun x hx => fine_mem s hf x (List.mem_filter.mp hx).1) ?_
  walk_at "e"
  have key : (∃ i j, a = .int i ∧ b = .int j) ∨ (([a, b].filter fun z => isT "bool" z || !isT "int" z) ≠ [] ∧ endD ls.length d = false) := by
    unfold endD; rw [hx]
    cases a <;> cases b <;> first | exact .inl ⟨_, _, rfl, rfl⟩ | exact .inr ⟨by simp [isT, dTy], rfl⟩
  rcases key with ⟨i, j, rfl, rfl⟩ | ⟨h2, h3⟩
  rotate_left
  · refine split_t (by simp only [Bool.not_eq_true', decide_eq_false_iff_not]; exact h2) ?_
    walk_at "e"
    rw [gives_rtI, h3]
  refine split_f (by simp [isT, dTy]) ?_
  have e1 : endD ls.length d = decide (EndOk ls.length (i, j)) := endD_of s
  rw [e1]
  walk_at "e"
  refine ev_chain ?_
  walk_at "e"
  refine ed_ixQ s (by decide) rfl ?_
  refine Ed.of rfl ?_
  refine ⟨_, rfl, fun h2 => ?_, fun h2 => ?_⟩
  · walk_at "e"
    refine ed_ixQ sw (by decide) rfl ?_
    walk_at "e"
    refine ed_lenQ sy ?_
    refine Ed.of rfl ?_
    refine ⟨_, rfl, fun h3 => ?_, fun h3 => ?_⟩
    · refine ev_chain ?_
      walk_at "e"
      refine ed_ixQ s (by decide) rfl ?_
      refine Ed.of rfl ?_
      refine ⟨_, rfl, fun h4 => ?_, fun h4 => ?_⟩
      · walk_at "e"
        rw [gives_rtI]
        simp only [decide_eq_true_eq] at h2 h3 h4
        congr 1
        apply decide_eq_decide.mpr
        unfold EndOk
        simp only
        omega
      · walk_at "e"
        rw [gives_rtI]
        simp only [decide_eq_true_eq, decide_eq_false_iff_not] at h2 h3 h4
        rw [decide_eq_false]
        unfold EndOk
        simp only
        omega
    · walk_at "e"
      rw [gives_rtI]
      simp only [decide_eq_true_eq, decide_eq_false_iff_not] at h2 h3
      rw [decide_eq_false]
      unfold EndOk
      simp only
      omega
  · walk_at "e"
    refine ⟨fun h => (nomatch h), fun _ => ?_⟩
    rw [gives_rtI]
    simp only [decide_eq_false_iff_not] at h2
    rw [decide_eq_false]
    unfold EndOk
    simp only
    omega
end Lw

set_option maxHeartbeats 4000000
namespace Lw
open PySem Fu
local macro_rules | `(tactic| walk_at "e1") => `(tactic| first
  | with_reducible refine eo_seq ?_ | (with_reducible refine then_nx' ?_; refine ⟨?_, ?_, ?_⟩; rotate_left; · (try dsimp only [List.set, List.length_cons, List.length_nil, List.cons_append, List.nil_append, Nat.zero_add, Nat.reduceAdd]); exact rfl) | with_reducible refine then_rt ?_ | with_reducible refine eo_if ?_ | with_reducible refine eo_ret ?_ | with_reducible refine eo_set ?_ | with_reducible refine eo_asg ?_ | with_reducible refine eo_drop ?_ | with_reducible refine eo_nx ?_ | with_reducible refine eo_par ?_ | with_reducible refine eo_own ?_ | with_reducible refine eo_retN ?_ | with_reducible refine eo_for ?_ | with_reducible refine eo_retO ?_
  | with_reducible refine ev_c ?_ | (with_reducible refine ev_var ?_; refine ⟨_, rfl, ?_⟩) | with_reducible refine ev_bin ?_ | with_reducible refine ev_un ?_ | with_reducible refine ev_nil ?_ | with_reducible refine ev_cons ?_
  | with_reducible refine ev_tup ?_ | with_reducible refine ev_lst ?_ | with_reducible refine ev_call ?_ | with_reducible refine ev_callF ?_ | with_reducible refine ev_isi ?_ | with_reducible refine ev_isi2 ?_ | with_reducible refine ev_andV ?_ | with_reducible refine ev_orV ?_ | with_reducible refine ev_notV ?_
  | with_reducible refine ev_B ?_ | with_reducible refine ev_and ?_ | with_reducible refine ev_or ?_ | with_reducible refine ev_not ?_ | with_reducible refine ev_yes ?_ | with_reducible refine ev_if ?_ | with_reducible refine ev_no ?_ | with_reducible refine ev_so ?_ | with_reducible refine ev_sl ?_ | with_reducible refine ev_items ?_
  | (with_reducible refine ev_ixO ?_; refine ⟨_, _, rfl, rfl, ?_⟩) | (with_reducible refine ev_varO ?_; refine ⟨_, _, rfl, rfl, ?_⟩) | (with_reducible refine ev_lenO ?_; refine ⟨_, _, rfl, rfl, ?_⟩) | (with_reducible refine ev_scrSl ?_; refine ⟨_, rfl, ?_⟩) | (with_reducible refine ev_scrLen ?_; refine ⟨_, rfl, ?_⟩) | (with_reducible refine ev_callScr ?_; refine ⟨_, rfl, ?_⟩) | (with_reducible refine ev_OL ?_; refine ⟨_, _, rfl, rfl, ?_⟩) | with_reducible refine ev_OR ?_ | with_reducible refine ev_rep ?_ | with_reducible refine ev_listRng1 ?_ | with_reducible refine eo_setO ?_
  | with_reducible refine es_name ?_ | with_reducible refine es_tup2 ?_ | with_reducible refine es_tup3 ?_
  | with_reducible refine ed_addI ?_ | with_reducible refine ed_subI ?_ | with_reducible refine ed_cmp ?_ | with_reducible refine ed_eqI ?_ | with_reducible refine ed_neI ?_ | with_reducible refine ed_slT ?_ | with_reducible refine ed_slL ?_ | with_reducible refine ed_lenT ?_ | with_reducible refine ed_lenL ?_ | with_reducible refine ed_lenS ?_ | with_reducible refine ed_inS ?_ | with_reducible refine ed_itT ?_ | with_reducible refine ed_itL ?_ | with_reducible refine ed_tupL ?_ | with_reducible refine ed_tupT ?_ | with_reducible refine ed_listL ?_ | with_reducible refine ed_listT ?_ | with_reducible refine ed_neg ?_ | with_reducible refine ed_max ?_ | with_reducible refine ed_min ?_ | with_reducible refine ed_intB ?_
  | with_reducible refine ev_rng1 ?_ | with_reducible refine ev_rng2 ?_)
local macro_rules | `(tactic| walk_at "sd") => `(tactic| first | rfl | assumption | (simp only [decide_eq_true_eq, decide_eq_false_iff_not, Bool.not_eq_true', Bool.not_eq_false', Bool.and_eq_true, Bool.or_eq_true, List.length_map, List.length_cons, List.length_nil, List.length_append, List.length_range] at *; omega))
local macro_rules | `(tactic| walk_at "e2") => `(tactic| first
  | walk_at "e1" | with_reducible refine ⟨_, rfl, ?_⟩ | with_reducible refine ⟨_, _, rfl, ?_⟩
  | with_reducible refine And.intro (Eq.refl (List.length _)) ?_ | with_reducible refine And.intro (Nat.le_of_ble_eq_true (n := List.length _) rfl) ?_
  | with_reducible refine And.intro (Eq.refl (_ : Sx)) (?_ : Ed _ _)
  | ((with_reducible refine And.intro ?_ (And.intro ?_ (?_ : Ev _ _))); (· rfl); (· rfl))
  | ((with_reducible refine ed_ixT ?_ ?_ ?_); (· decide); (· rfl)) | ((with_reducible refine ed_ixL ?_ ?_ ?_); (· decide); (· rfl)) | ((with_reducible refine ed_at ?_ ?_ ?_); (· decide); (· rfl))
  | ((with_reducible refine ed_modI ?_ ?_); (· first | decide | omega))
  | with_reducible exact gives_nx | ((with_reducible refine gives_rt ?_); (· rfl)) | ((with_reducible refine And.intro ?_ ?_); (· exact rfl); (· with_reducible exact Eq.refl (_ : Sx))))
local macro_rules | `(tactic| walk_at "e") => `(tactic| repeat walk_at "e2")
/-- begin a def's spec -/
local macro_rules | `(tactic| walk_at "i") => `(tactic| simp only [initS, List.map_cons, List.map_nil, List.length_cons, List.length_nil, Nat.reduceAdd, Nat.reduceSub, List.replicate, List.cons_append, List.nil_append])
/-- a known truth decides -/
local macro_rules | `(tactic| walk_at "t") => `(tactic| first | ((with_reducible refine split_t ?_ ?_); (· walk_at "sd")) | ((with_reducible refine split_t' ?_ ?_); (· walk_at "sd")))
local macro_rules | `(tactic| walk_at "f") => `(tactic| first | ((with_reducible refine split_f ?_ ?_); (· walk_at "sd")) | ((with_reducible refine split_f' ?_ ?_); (· walk_at "sd")))
/-- all that is seen in a look -/
local macro_rules | `(tactic| walk_at "v") => `(tactic| (rw [sealAll_mk (by (simp only [List.set_cons_zero, List.set_cons_succ, List.map_cons, List.map_nil, sealS_none, sealS_dat, sealS_scr, sealS_own, List.getElem?_cons_zero, List.getElem?_cons_succ, sealC_lst]; rfl)) (by (simp only [List.set_cons_zero, List.set_cons_succ, List.map_cons, List.map_nil]; rfl))]))
namespace Sp
theorem ev_drawR {sl : List (Option R)} {os : List (Option Cell)} {i : Nat} {g : M (List D)} {Q : D → Sx → Prop}
    (h : ∃ j, sl[i]? = some (some (.own j)) ∧ Ev (g ⟨sl, os⟩) fun ds S1 => ∃ cs many c, S1.os[j]? = some (some (.lst cs)) ∧ ds = [.int many] ∧ Reel c cs ∧ 1 ≤ c ∧ 0 < many ∧ many ≤ 18446744073709551616 ∧ ∀ v cs', 0 ≤ v → v < many → Reel (c - 1) cs' → Q (.int v) ⟨S1.sl, S1.os.set j (some (.lst cs'))⟩) : Ev (gIO i 1 m__law_draw_k15 g ⟨sl, os⟩) Q := by
  obtain ⟨j, hi, h⟩ := h
  refine ev_IO ⟨j, hi, h.mono ?_⟩
  rintro ds S1 ⟨cs, many, c, hc, rfl, hR, c1, m0, m1, h⟩
  obtain ⟨d, cs', e, v, rfl, v0, v1, hR'⟩ := x_draw (b := c - 1) (hR.mono (by omega)) m0 m1
  exact ⟨cs, hc, rfl, _, cs', e, h v cs' v0 v1 hR'⟩
end Sp
theorem canLay_ints (ns : List Int) : PyData.canLayAll0 (ns.map PyData.int) = true := by
  induction ns with
  | nil => rfl
  | cons n ns ih => simp [PyData.canLayAll0, PyData.canLay0, ih]
theorem ed_countI {ns : List Int} {i : Int} {Q : D → Prop} (h : Q (.int (ns.count i : Nat))) : Ed (dCount (.list (ns.map PyData.int)) (.int i)) Q := by
  refine ⟨_, ?_, h⟩
  simp only [dCount]
  rw [if_pos ⟨canLay_ints ns, (fine_int i).1, by simp [PyData.depth]⟩, List.countP_map, List.count]
  have : (List.countP ((fun y => PyData.eqv y (.int i)) ∘ PyData.int) ns) = List.countP (fun x => x == i) ns := List.countP_congr fun x _ => by simp [PyData.eqv, Function.comp]
  rw [this]
theorem filter_nodup {ns : List Int} : (ns.filter fun i => decide ((1 : Int) < (ns.count i : Nat))) = [] ↔ ns.Nodup := by
  rw [List.filter_eq_nil_iff, List.nodup_iff_count]
  constructor
  · intro h a
    by_cases m : a ∈ ns
    · have := h a m
      simp at this; omega
    · rw [List.count_eq_zero_of_not_mem m]; omega
  · intro h a _
    have := h a
    simp; omega
theorem fine_en {d : D} {e : Int × Int} (s : IsEn d e) : Fine 1 d := by
  rcases s with rfl | rfl
  · exact fine_list (n := 0) fun x hx => by
      simp only [List.mem_cons, List.not_mem_nil, or_false] at hx
      rcases hx with rfl | rfl <;> exact fine_int _
  · exact fine_tup (n := 0) fun x hx => by
      simp only [List.mem_cons, List.not_mem_nil, or_false] at hx
      rcases hx with rfl | rfl <;> exact fine_int _
theorem filter_none {α : Type} {xs : List α} {f : α → Bool} : (xs.filter fun x => !f x) = [] ↔ xs.all f = true := by
  rw [List.filter_eq_nil_iff, List.all_eq_true]
  simp
theorem goes_idx (ls : List Ln) (es : List (Int × Int)) : ((es.zip es.tail).all fun p => goesB ls p.1 p.2) = true ↔ ∀ k, k < es.length - 1 → goesB ls (es.getD k (0, 0)) (es.getD (k + 1) (0, 0)) = true := by
  rw [List.all_eq_true]
  constructor
  · intro h k hk
    have g1 : es[k]? = some es[k] := List.getElem?_eq_getElem (by omega)
    have g2 : es[k + 1]? = some es[k + 1] := List.getElem?_eq_getElem (by omega)
    rw [List.getD_eq_getElem?_getD, List.getD_eq_getElem?_getD, g1, g2]
    refine h (es[k], es[k + 1]) (List.mem_iff_getElem?.mpr ⟨k, ?_⟩)
    rw [List.getElem?_zip_eq_some]
    exact ⟨g1, by rw [List.getElem?_tail, g2]⟩
  · rintro h ⟨a, b⟩ hm
    obtain ⟨k, hk⟩ := List.mem_iff_getElem?.mp hm
    rw [List.getElem?_zip_eq_some, List.getElem?_tail] at hk
    obtain ⟨g1, g2⟩ := hk
    have l2 := (List.getElem?_eq_some_iff.mp g2).1
    have := h k (by omega)
    rw [List.getD_eq_getElem?_getD, List.getD_eq_getElem?_getD, g1, g2] at this
    exact this
theorem x__law_is_ride {w : D} {p : Int} {ls : List Ln} (hw : Web w p ls) (h : WbOk p ls) {d : D} {es : List (Int × Int)} (hd : IsRide d es) (hz : es.length ≤ 4000000) : m__law_is_ride [w, d] = some (.bool (rideB ls es)) := by
  obtain ⟨ps, s, rfl, hp⟩ := hd
  have hz : ps.length ≤ 4000000 := by simpa using hz
  unfold m__law_is_ride; refine mF_of ?_; walk_at "i"; unfold g__law_is_ride
  walk_at "e"
  rw [isi_seq, s.of]
  refine ⟨fun _ => ?_, fun h => (nomatch h)⟩
  walk_at "e"
  refine ed_lenQ s ?_
  walk_at "e"
  refine ⟨fun hn => ?_, fun hn => ?_⟩
  · walk_at "e"
    have : ps = [] := by
      have := of_decide_eq_true hn
      exact List.length_eq_zero_iff.mp (by simpa using this)
    rw [gives_rtI, this]; rfl
  have hnn : ps.map (·.2) ≠ [] := by
    intro z
    have : ps = [] := List.map_eq_nil_iff.mp z
    rw [this] at hn; simp at hn
  walk_at "e"
  refine ev_lcX (xs := ps) (enc := (·.1)) (b := fun q => !decide (EndOk ls.length q.2)) (g := (·.1)) ?_
  walk_at "e"
  refine ed_itQ s ⟨rfl, fun q hq => ?_, ?_⟩
  · walk_at "e"
    refine Ed.of (x__law_is_end hw q.1 ((fine_en (hp q hq)).mono (by decide))) ?_
    rw [endD_of (hp q hq)]
    walk_at "e"
    refine ⟨rfl, rfl, fun _ => ?_⟩
    walk_at "e"
  walk_at "e"
  refine ed_ne_nil (n := 1) (fun x hx => ?_) ?_
  · obtain ⟨q, hq, rfl⟩ := List.mem_map.mp hx
    exact fine_en (hp q (List.mem_filter.mp hq).1)
  walk_at "e"
  have e1 : (ps.filter fun q => !decide (EndOk ls.length q.2)) = [] ↔ (ps.map (·.2)).all (fun e => decide (EndOk ls.length e)) = true := by
    rw [filter_none (f := fun q : D × (Int × Int) => decide (EndOk ls.length q.2)), List.all_map]; rfl
  refine ⟨fun h1 => ?_, fun h1 => ?_⟩
  · walk_at "e"
    rw [gives_rtI]
    unfold rideB
    have : ¬ ((ps.map (·.2)).all (fun e => decide (EndOk ls.length e)) = true) := by
      rw [← e1]
      simpa using h1
    rw [Bool.not_eq_true] at this
    rw [this]; simp
  have hall : (ps.map (·.2)).all (fun e => decide (EndOk ls.length e)) = true := by
    rw [← e1]
    simpa using h1
  unfold rideB
  rw [decide_eq_true hnn, hall, Bool.true_and, Bool.true_and]
  walk_at "e"
  refine ev_mapX (xs := ps) (enc := (·.1)) (g := fun q => .int q.2.1) ?_
  walk_at "e"
  refine ed_itQ s ⟨rfl, fun q hq => ?_, ?_⟩
  · walk_at "e"
    refine ed_ixQ (hp q hq) (by decide) rfl ⟨rfl, rfl⟩
  have e2 : ps.map (fun q => PyData.int q.2.1) = ((ps.map (·.2)).map Prod.fst).map PyData.int := by rw [List.map_map, List.map_map]; rfl
  rw [e2]
  walk_at "e"
  refine ev_lcX (xs := (ps.map (·.2)).map Prod.fst) (enc := PyData.int) (b := fun i => decide ((1 : Int) < (((ps.map (·.2)).map Prod.fst).count i : Nat))) (g := PyData.int) ?_
  walk_at "e"
  refine ⟨rfl, fun i hi => ?_, ?_⟩
  · walk_at "e"
    refine ed_countI ?_
    walk_at "e"
    refine ⟨rfl, rfl, fun _ => ?_⟩
    walk_at "e"
  walk_at "e"
  refine ed_ne_nil (n := 0) (fun x hx => ?_) ?_
  · obtain ⟨q, hq, rfl⟩ := List.mem_map.mp hx
    exact fine_int _
  walk_at "e"
  refine ⟨fun h2 => ?_, fun h2 => ?_⟩
  · walk_at "e"
    have : ¬ ((ps.map (·.2)).map Prod.fst).Nodup := by
      rw [← filter_nodup]
      simpa using h2
    rw [gives_rtI, decide_eq_false this]; rfl
  have hnd : ((ps.map (·.2)).map Prod.fst).Nodup := by
    rw [← filter_nodup]
    simpa using h2
  rw [decide_eq_true hnd, Bool.true_and]
  have goesAll : (ps.zip ps.tail).all (fun z => goesB ls z.1.2 z.2.2) = ((ps.map (·.2)).zip (ps.map (·.2)).tail).all fun p => goesB ls p.1 p.2 := by
    rw [← List.map_tail, List.zip_map, List.all_map]; rfl
  have plen : 1 ≤ ps.length := by
    cases ps with
    | nil => exact absurd rfl hnn
    | cons => simp
  walk_at "e"
  refine ev_lcX (xs := List.range (ps.length - 1)) (enc := fun k : Nat => .int (1 + (k : Int))) (b := fun k => !goesB ls ((ps.map (·.2)).getD k (0, 0)) ((ps.map (·.2)).getD (k + 1) (0, 0))) (g := fun k : Nat => .int (1 + (k : Int))) ?_
  walk_at "e"
  refine ed_lenQ s ?_
  walk_at "e"
  refine ⟨by decide, by decide, by omega, by simp; omega, by simp; omega, ?_, fun k hk => ?_, ?_⟩
  · rw [rng_map]; congr 2; simp
  · have hk : k < ps.length - 1 := List.mem_range.mp hk
    have g1 : ps[k]? = some ps[k] := List.getElem?_eq_getElem (by omega)
    have g2 : ps[k + 1]? = some ps[k + 1] := List.getElem?_eq_getElem (by omega)
    have m1 : ps[k] ∈ ps := List.getElem_mem _
    have m2 : ps[k + 1] ∈ ps := List.getElem_mem _
    have all2 : ∀ q ∈ ps, EndOk ls.length q.2 := fun q hq => by
      have := List.all_eq_true.mp hall q.2 (List.mem_map_of_mem (f := (·.2)) hq)
      simpa using this
    walk_at "e"
    refine ed_ixQ s (x := ps[k].1) (by omega) (by rw [show (1 + (k : Int) - 1).toNat = k by omega, List.getElem?_map, g1]; rfl) ?_
    walk_at "e"
    refine ed_ixQ s (x := ps[k + 1].1) (by omega) (by rw [show (1 + (k : Int)).toNat = k + 1 by omega, List.getElem?_map, g2]; rfl) ?_
    walk_at "e"
    refine Ed.of (x__law_goes hw h (hp _ m1) (hp _ m2) (all2 _ m1) (all2 _ m2)) ?_
    walk_at "e"
    refine ⟨rfl, ?_, fun _ => ?_⟩
    · rw [List.getD_eq_getElem?_getD, List.getD_eq_getElem?_getD, List.getElem?_map, List.getElem?_map, g1, g2]; rfl
    walk_at "e"
  walk_at "e"
  refine ed_eq_nil (n := 0) (fun x hx => ?_) ?_
  · obtain ⟨q, hq, rfl⟩ := List.mem_map.mp hx
    exact fine_int _
  rw [gives_rtI]
  congr 1
  rw [Bool.eq_iff_iff, decide_eq_true_eq, goes_idx, List.map_eq_nil_iff, filter_none (f := fun k => goesB ls ((ps.map (·.2)).getD k (0, 0)) ((ps.map (·.2)).getD (k + 1) (0, 0)))]
  simp only [List.all_eq_true, List.mem_range, List.length_map]
theorem x__law_is_round {w : D} {p : Int} {ls : List Ln} (hw : Web w p ls) (h : WbOk p ls) {d : D} {es : List (Int × Int)} (hd : IsRide d es) (hz : es.length ≤ 4000000) : m__law_is_round [w, d] = some (.bool (roundB ls es)) := by
  unfold m__law_is_round; refine mF_of ?_; walk_at "i"; unfold g__law_is_round
  walk_at "e"
  refine Ed.of (x__law_is_ride hw h hd hz) ?_
  walk_at "e"
  refine ⟨fun hr => ?_, fun hr => by unfold roundB; rw [hr]; rfl⟩
  obtain ⟨ps, s, rfl, hp⟩ := hd
  obtain ⟨hn, hall, _, _⟩ := rideB_ends hr
  have hn : ps ≠ [] := fun z => hn (by rw [z]; rfl)
  obtain ⟨a, ha, la, la2⟩ := last_map hn
  obtain ⟨b, hb, lb, lb2⟩ := head_map hn
  walk_at "e"
  refine ed_lastQ s la ?_
  walk_at "e"
  refine ed_ixQ s (by decide) lb ?_
  walk_at "e"
  refine Ed.of (x__law_goes hw h (hp _ ha) (hp _ hb) (hall _ (List.mem_map_of_mem ha)) (hall _ (List.mem_map_of_mem hb))) ?_
  walk_at "e"
  rw [gives_rtI]
  unfold roundB
  rw [hr, la2, lb2]; rfl
end Lw

set_option maxHeartbeats 4000000
namespace Lw
open PySem Fu
local macro_rules | `(tactic| walk_at "e1") => `(tactic| first
  | with_reducible refine eo_seq ?_ | (with_reducible refine then_nx' ?_; refine ⟨?_, ?_, ?_⟩; rotate_left; · (try dsimp only [List.set, List.length_cons, List.length_nil, List.cons_append, List.nil_append, Nat.zero_add, Nat.reduceAdd]); exact rfl) | with_reducible refine then_rt ?_ | with_reducible refine eo_if ?_ | with_reducible refine eo_ret ?_ | with_reducible refine eo_set ?_ | with_reducible refine eo_asg ?_ | with_reducible refine eo_drop ?_ | with_reducible refine eo_nx ?_ | with_reducible refine eo_par ?_ | with_reducible refine eo_own ?_ | with_reducible refine eo_retN ?_ | with_reducible refine eo_for ?_ | with_reducible refine eo_retO ?_
  | with_reducible refine ev_c ?_ | (with_reducible refine ev_var ?_; refine ⟨_, rfl, ?_⟩) | with_reducible refine ev_bin ?_ | with_reducible refine ev_un ?_ | with_reducible refine ev_nil ?_ | with_reducible refine ev_cons ?_
  | with_reducible refine ev_tup ?_ | with_reducible refine ev_lst ?_ | with_reducible refine ev_call ?_ | with_reducible refine ev_callF ?_ | with_reducible refine ev_isi ?_ | with_reducible refine ev_isi2 ?_ | with_reducible refine ev_andV ?_ | with_reducible refine ev_orV ?_ | with_reducible refine ev_notV ?_
  | with_reducible refine ev_B ?_ | with_reducible refine ev_and ?_ | with_reducible refine ev_or ?_ | with_reducible refine ev_not ?_ | with_reducible refine ev_yes ?_ | with_reducible refine ev_if ?_ | with_reducible refine ev_no ?_ | with_reducible refine ev_so ?_ | with_reducible refine ev_sl ?_ | with_reducible refine ev_items ?_
  | (with_reducible refine ev_ixO ?_; refine ⟨_, _, rfl, rfl, ?_⟩) | (with_reducible refine ev_varO ?_; refine ⟨_, _, rfl, rfl, ?_⟩) | (with_reducible refine ev_lenO ?_; refine ⟨_, _, rfl, rfl, ?_⟩) | (with_reducible refine ev_scrSl ?_; refine ⟨_, rfl, ?_⟩) | (with_reducible refine ev_scrLen ?_; refine ⟨_, rfl, ?_⟩) | (with_reducible refine ev_callScr ?_; refine ⟨_, rfl, ?_⟩) | (with_reducible refine ev_OL ?_; refine ⟨_, _, rfl, rfl, ?_⟩) | with_reducible refine ev_OR ?_ | with_reducible refine ev_rep ?_ | with_reducible refine ev_listRng1 ?_ | with_reducible refine eo_setO ?_
  | with_reducible refine es_name ?_ | with_reducible refine es_tup2 ?_ | with_reducible refine es_tup3 ?_
  | with_reducible refine ed_addI ?_ | with_reducible refine ed_subI ?_ | with_reducible refine ed_cmp ?_ | with_reducible refine ed_eqI ?_ | with_reducible refine ed_neI ?_ | with_reducible refine ed_slT ?_ | with_reducible refine ed_slL ?_ | with_reducible refine ed_lenT ?_ | with_reducible refine ed_lenL ?_ | with_reducible refine ed_lenS ?_ | with_reducible refine ed_inS ?_ | with_reducible refine ed_itT ?_ | with_reducible refine ed_itL ?_ | with_reducible refine ed_tupL ?_ | with_reducible refine ed_tupT ?_ | with_reducible refine ed_listL ?_ | with_reducible refine ed_listT ?_ | with_reducible refine ed_neg ?_ | with_reducible refine ed_max ?_ | with_reducible refine ed_min ?_ | with_reducible refine ed_intB ?_
  | with_reducible refine ev_rng1 ?_ | with_reducible refine ev_rng2 ?_)
local macro_rules | `(tactic| walk_at "sd") => `(tactic| first | rfl | assumption | (simp only [decide_eq_true_eq, decide_eq_false_iff_not, Bool.not_eq_true', Bool.not_eq_false', Bool.and_eq_true, Bool.or_eq_true, List.length_map, List.length_cons, List.length_nil, List.length_append, List.length_range] at *; omega))
local macro_rules | `(tactic| walk_at "e2") => `(tactic| first
  | walk_at "e1" | with_reducible refine ⟨_, rfl, ?_⟩ | with_reducible refine ⟨_, _, rfl, ?_⟩
  | with_reducible refine And.intro (Eq.refl (List.length _)) ?_ | with_reducible refine And.intro (Nat.le_of_ble_eq_true (n := List.length _) rfl) ?_
  | with_reducible refine And.intro (Eq.refl (_ : Sx)) (?_ : Ed _ _)
  | ((with_reducible refine And.intro ?_ (And.intro ?_ (?_ : Ev _ _))); (· rfl); (· rfl))
  | ((with_reducible refine ed_ixT ?_ ?_ ?_); (· decide); (· rfl)) | ((with_reducible refine ed_ixL ?_ ?_ ?_); (· decide); (· rfl)) | ((with_reducible refine ed_at ?_ ?_ ?_); (· decide); (· rfl))
  | ((with_reducible refine ed_modI ?_ ?_); (· first | decide | omega))
  | with_reducible exact gives_nx | ((with_reducible refine gives_rt ?_); (· rfl)) | ((with_reducible refine And.intro ?_ ?_); (· exact rfl); (· with_reducible exact Eq.refl (_ : Sx))))
local macro_rules | `(tactic| walk_at "e") => `(tactic| repeat walk_at "e2")
/-- begin a def's spec -/
local macro_rules | `(tactic| walk_at "i") => `(tactic| simp only [initS, List.map_cons, List.map_nil, List.length_cons, List.length_nil, Nat.reduceAdd, Nat.reduceSub, List.replicate, List.cons_append, List.nil_append])
/-- a known truth decides -/
local macro_rules | `(tactic| walk_at "t") => `(tactic| first | ((with_reducible refine split_t ?_ ?_); (· walk_at "sd")) | ((with_reducible refine split_t' ?_ ?_); (· walk_at "sd")))
local macro_rules | `(tactic| walk_at "f") => `(tactic| first | ((with_reducible refine split_f ?_ ?_); (· walk_at "sd")) | ((with_reducible refine split_f' ?_ ?_); (· walk_at "sd")))
/-- all that is seen in a look -/
local macro_rules | `(tactic| walk_at "v") => `(tactic| (rw [sealAll_mk (by (simp only [List.set_cons_zero, List.set_cons_succ, List.map_cons, List.map_nil, sealS_none, sealS_dat, sealS_scr, sealS_own, List.getElem?_cons_zero, List.getElem?_cons_succ, sealC_lst]; rfl)) (by (simp only [List.set_cons_zero, List.set_cons_succ, List.map_cons, List.map_nil]; rfl))]))
theorem ev_slO {sl : List (Option R)} {os : List (Option Cell)} {i : Nat} {gl gh : M (Option Int)} {Q : D → Sx → Prop}
    (h : ∃ j, sl[i]? = some (some (.own j)) ∧ Ev (gl ⟨sl, os⟩) fun lo S1 => Ev (gh S1) fun hi S2 => ∃ cs, S2.os[j]? = some (some (.lst cs)) ∧ Q (.list (cutL cs lo hi)) S2) : Ev (gSlO i gl gh ⟨sl, os⟩) Q := by
  obtain ⟨j, hi, lo, S1, e1, h2, S2, e2, cs, e3, q⟩ := h
  exact ⟨_, _, by simp only [gSlO, hi, e1, e2, Fu.cellOf, e3, Option.bind_some], q⟩
namespace Sp
/-- a text of letters -/
def Letters (x : Str) : Prop := 0 < x.length ∧ x.length ≤ 26 ∧ ∀ c ∈ x.cps.toList, Let c
theorem letters_az : Letters "abcdefghijklmnopqrstuvwxyz" := ⟨by decide +kernel, by decide +kernel, by
  rw [letters]
  intro c hc
  obtain ⟨i, hi, rfl⟩ := List.mem_map.mp hc
  rw [List.mem_range] at hi
  exact ⟨by omega, by omega⟩⟩
theorem letters_few {x : Str} {l : List Nat} (e : x.cps.toList = l) (h0 : 0 < l.length) (h1 : l.length ≤ 26) (h : ∀ c ∈ l, Let c) : Letters x := by
  have : x.length = l.length := by rw [← e, Array.length_toList]; rfl
  exact ⟨by omega, by omega, by rw [e]; exact h⟩
theorem x__law_web {c most : Nat} {cs : List D} (m1 : most ≤ 1000) (hR : Reel c cs) (hc : 4 * most + 4 ≤ c) :
    ∃ d cs', m__law_web cs [.int (most : Int)] = some (d, cs') ∧ ∃ (p : Int) (ls : List Ln), d = wb p ls ∧ WbOk p ls ∧ 0 < p ∧ p ≤ 24 ∧ ls.length ≤ most ∧ Reel (c - (4 * most + 4)) cs' := by
  unfold m__law_web; refine mIO_of ?_; walk_at "i"; unfold g__law_web
  walk_at "e"
  refine ev_drawR ⟨_, rfl, ?_⟩
  walk_at "e"
  refine ev_drawR ⟨_, rfl, ?_⟩
  walk_at "e"
  refine ⟨_, _, _, rfl, rfl, hR, by omega, by decide, by decide, fun v1 cs a1 b1 hR => ?_⟩
  refine ed_pick (P := fun d => ∃ k : Int, d = .int k ∧ 0 < k ∧ k ≤ 24) a1 b1 (fun d hd => ?_) ?_
  · simp only [List.mem_cons, List.not_mem_nil, or_false] at hd
    rcases hd with rfl | rfl | rfl | rfl <;> exact ⟨_, rfl, by decide, by decide⟩
  rintro _ ⟨k, rfl, k0, k1⟩
  walk_at "e"
  refine ⟨_, _, _, rfl, rfl, hR, by omega, k0, by omega, fun v2 cs a2 b2 hR => ?_⟩
  walk_at "e"
  refine ev_drawR ⟨_, rfl, ?_⟩
  walk_at "e"
  refine ⟨_, _, _, rfl, rfl, hR, by omega, by decide, by decide, fun v3 cs a3 b3 hR => ?_⟩
  refine ed_pick (P := fun d => ∃ x : Str, d = .str x ∧ Letters x) a3 b3 (fun d hd => ?_) ?_
  · simp only [List.mem_cons, List.not_mem_nil, or_false] at hd
    rcases hd with rfl | rfl | rfl | rfl | rfl | rfl
    · exact ⟨_, rfl, letters_few (l := [97]) rfl (by decide) (by decide) (by decide)⟩
    · exact ⟨_, rfl, letters_few (l := [97, 98]) rfl (by decide) (by decide) (by decide)⟩
    · exact ⟨_, rfl, letters_few (l := [97, 97, 98]) rfl (by decide) (by decide) (by decide)⟩
    · exact ⟨_, rfl, letters_few (l := [97, 98, 99]) rfl (by decide) (by decide) (by decide)⟩
    · exact ⟨_, rfl, letters_few (l := [97, 98, 99, 100, 122]) rfl (by decide) (by decide) (by decide)⟩
    · exact ⟨_, rfl, letters_az⟩
  rintro _ ⟨sg, rfl, hsg⟩
  walk_at "e"
  refine ev_drawR ⟨_, rfl, ?_⟩
  walk_at "e"
  refine ⟨_, _, _, rfl, rfl, hR, by omega, by omega, by omega, fun v4 cs a4 b4 hR => ?_⟩
  walk_at "e"
  refine ⟨by omega, by omega, ?_⟩
  obtain ⟨n, rfl⟩ : ∃ n : Nat, v4 = (n : Int) := ⟨v4.toNat, by omega⟩
  rw [Int.toNat_natCast]
  refine eo_loop (fun i S => ∃ x5 x6 x7 cs, ∃ ls : List Ln, S = ⟨[some (.own 0), some (.dat (.int (most : Int))), some (.dat (.int (1 + v2))), some (.dat (.str sg)), some (.own 1), x5, x6, x7], [some (.lst cs), some (.lst (ls.map ln))]⟩ ∧ (∀ l ∈ ls, LnOk (1 + v2) l) ∧ ls.length = i ∧ Reel (c - 4 - 4 * i) cs) ⟨_, _, _, _, [], rfl, (fun _ h => nomatch h), rfl, hR.mono (by omega)⟩ ?_ ?_
  · rintro i d S hd ⟨x5, x6, x7, cs, ls, rfl, hls, hll, hR⟩
    obtain ⟨hi, rfl⟩ := rng_at hd
    walk_at "e"
    refine ev_drawR ⟨_, rfl, ?_⟩
    walk_at "e"
    refine ⟨_, _, _, rfl, rfl, hR, by omega, by omega, by omega, fun w1 cs c1 d1 hR => ?_⟩
    walk_at "e"
    refine ev_drawR ⟨_, rfl, ?_⟩
    walk_at "e"
    refine ⟨_, _, _, rfl, rfl, hR, by omega, by omega, by omega, fun w2 cs c2 d2 hR => ?_⟩
    walk_at "e"
    refine ev_drawR ⟨_, rfl, ?_⟩
    walk_at "e"
    refine ⟨_, _, _, rfl, rfl, hR, by omega, by decide, by decide, fun w3 cs c3 d3 hR => ?_⟩
    refine ed_pick (P := fun d => ∃ k : Int, d = .int k ∧ 0 ≤ k ∧ k < 3) c3 d3 (fun d hd => ?_) ?_
    · simp only [List.mem_cons, List.not_mem_nil, or_false] at hd
      rcases hd with rfl | rfl | rfl | rfl <;> exact ⟨_, rfl, by decide, by decide⟩
    rintro _ ⟨k3, rfl, k30, k31⟩
    refine ed_pick (P := fun d => ∃ k : Int, d = .int k ∧ 0 ≤ k ∧ k < 1 + v2) k30 k31 (fun d hd => ?_) ?_
    · have := Int.emod_nonneg (w1 + 1) (show (1 + v2) ≠ 0 by omega)
      have := Int.emod_lt_of_pos (w1 + 1) (show 0 < (1 + v2) by omega)
      simp only [List.mem_cons, List.not_mem_nil, or_false] at hd
      rcases hd with rfl | rfl | rfl <;> exact ⟨_, rfl, by omega, by omega⟩
    rintro _ ⟨k4, rfl, k40, k41⟩
    walk_at "e"
    refine ev_app ⟨_, _, rfl, rfl, ?_⟩
    walk_at "e"
    refine ev_drawR ⟨_, rfl, ?_⟩
    walk_at "e"
    refine ⟨_, _, _, rfl, rfl, hR, by omega, by have := hsg.1; omega, by have := hsg.2.1; omega, fun w5 cs c5 d5 hR => ?_⟩
    refine ed_pickS (P := Let) c5 (by simpa using d5) hsg.2.2 fun c' kc => ?_
    walk_at "e"
    refine ⟨by simp; omega, ?_⟩
    walk_at "e"
    refine ⟨_, _, _, cs, ls ++ [(w1, k4, c')], by rw [List.map_append]; rfl, fun l hl => ?_, by simp [hll], hR.mono (by omega)⟩
    rcases List.mem_append.mp hl with h | h
    · exact hls l h
    · rw [List.mem_singleton.mp h]; exact ⟨c1, d1, k40, k41, kc⟩
  · rintro S ⟨x5, x6, x7, cs, ls, rfl, hls, hll, hR⟩
    rw [rng_len] at hll hR
    walk_at "e"
    exact ⟨cs, rfl, 1 + v2, ls, rfl, ⟨by omega, hls, by omega⟩, by omega, by omega, by omega, hR.mono (by omega)⟩
end Sp
end Lw

set_option maxHeartbeats 4000000
namespace Lw
open PySem Fu
local macro_rules | `(tactic| walk_at "e1") => `(tactic| first
  | with_reducible refine eo_seq ?_ | (with_reducible refine then_nx' ?_; refine ⟨?_, ?_, ?_⟩; rotate_left; · (try dsimp only [List.set, List.length_cons, List.length_nil, List.cons_append, List.nil_append, Nat.zero_add, Nat.reduceAdd]); exact rfl) | with_reducible refine then_rt ?_ | with_reducible refine eo_if ?_ | with_reducible refine eo_ret ?_ | with_reducible refine eo_set ?_ | with_reducible refine eo_asg ?_ | with_reducible refine eo_drop ?_ | with_reducible refine eo_nx ?_ | with_reducible refine eo_par ?_ | with_reducible refine eo_own ?_ | with_reducible refine eo_retN ?_ | with_reducible refine eo_for ?_ | with_reducible refine eo_retO ?_
  | with_reducible refine ev_c ?_ | (with_reducible refine ev_var ?_; refine ⟨_, rfl, ?_⟩) | with_reducible refine ev_bin ?_ | with_reducible refine ev_un ?_ | with_reducible refine ev_nil ?_ | with_reducible refine ev_cons ?_
  | with_reducible refine ev_tup ?_ | with_reducible refine ev_lst ?_ | with_reducible refine ev_call ?_ | with_reducible refine ev_callF ?_ | with_reducible refine ev_isi ?_ | with_reducible refine ev_isi2 ?_ | with_reducible refine ev_andV ?_ | with_reducible refine ev_orV ?_ | with_reducible refine ev_notV ?_
  | with_reducible refine ev_B ?_ | with_reducible refine ev_and ?_ | with_reducible refine ev_or ?_ | with_reducible refine ev_not ?_ | with_reducible refine ev_yes ?_ | with_reducible refine ev_if ?_ | with_reducible refine ev_no ?_ | with_reducible refine ev_so ?_ | with_reducible refine ev_sl ?_ | with_reducible refine ev_items ?_
  | (with_reducible refine ev_ixO ?_; refine ⟨_, _, rfl, rfl, ?_⟩) | (with_reducible refine ev_varO ?_; refine ⟨_, _, rfl, rfl, ?_⟩) | (with_reducible refine ev_lenO ?_; refine ⟨_, _, rfl, rfl, ?_⟩) | (with_reducible refine ev_scrSl ?_; refine ⟨_, rfl, ?_⟩) | (with_reducible refine ev_scrLen ?_; refine ⟨_, rfl, ?_⟩) | (with_reducible refine ev_callScr ?_; refine ⟨_, rfl, ?_⟩) | (with_reducible refine ev_OL ?_; refine ⟨_, _, rfl, rfl, ?_⟩) | with_reducible refine ev_OR ?_ | with_reducible refine ev_rep ?_ | with_reducible refine ev_listRng1 ?_ | with_reducible refine eo_setO ?_
  | with_reducible refine es_name ?_ | with_reducible refine es_tup2 ?_ | with_reducible refine es_tup3 ?_
  | with_reducible refine ed_addI ?_ | with_reducible refine ed_subI ?_ | with_reducible refine ed_cmp ?_ | with_reducible refine ed_eqI ?_ | with_reducible refine ed_neI ?_ | with_reducible refine ed_slT ?_ | with_reducible refine ed_slL ?_ | with_reducible refine ed_lenT ?_ | with_reducible refine ed_lenL ?_ | with_reducible refine ed_lenS ?_ | with_reducible refine ed_inS ?_ | with_reducible refine ed_itT ?_ | with_reducible refine ed_itL ?_ | with_reducible refine ed_tupL ?_ | with_reducible refine ed_tupT ?_ | with_reducible refine ed_listL ?_ | with_reducible refine ed_listT ?_ | with_reducible refine ed_neg ?_ | with_reducible refine ed_max ?_ | with_reducible refine ed_min ?_ | with_reducible refine ed_intB ?_
  | with_reducible refine ev_rng1 ?_ | with_reducible refine ev_rng2 ?_)
local macro_rules | `(tactic| walk_at "sd") => `(tactic| first | rfl | assumption | (simp only [decide_eq_true_eq, decide_eq_false_iff_not, Bool.not_eq_true', Bool.not_eq_false', Bool.and_eq_true, Bool.or_eq_true, List.length_map, List.length_cons, List.length_nil, List.length_append, List.length_range] at *; omega))
local macro_rules | `(tactic| walk_at "e2") => `(tactic| first
  | walk_at "e1" | with_reducible refine ⟨_, rfl, ?_⟩ | with_reducible refine ⟨_, _, rfl, ?_⟩
  | with_reducible refine And.intro (Eq.refl (List.length _)) ?_ | with_reducible refine And.intro (Nat.le_of_ble_eq_true (n := List.length _) rfl) ?_
  | with_reducible refine And.intro (Eq.refl (_ : Sx)) (?_ : Ed _ _)
  | ((with_reducible refine And.intro ?_ (And.intro ?_ (?_ : Ev _ _))); (· rfl); (· rfl))
  | ((with_reducible refine ed_ixT ?_ ?_ ?_); (· decide); (· rfl)) | ((with_reducible refine ed_ixL ?_ ?_ ?_); (· decide); (· rfl)) | ((with_reducible refine ed_at ?_ ?_ ?_); (· decide); (· rfl))
  | ((with_reducible refine ed_modI ?_ ?_); (· first | decide | omega))
  | with_reducible exact gives_nx | ((with_reducible refine gives_rt ?_); (· rfl)) | ((with_reducible refine And.intro ?_ ?_); (· exact rfl); (· with_reducible exact Eq.refl (_ : Sx))))
local macro_rules | `(tactic| walk_at "e") => `(tactic| repeat walk_at "e2")
/-- begin a def's spec -/
local macro_rules | `(tactic| walk_at "i") => `(tactic| simp only [initS, List.map_cons, List.map_nil, List.length_cons, List.length_nil, Nat.reduceAdd, Nat.reduceSub, List.replicate, List.cons_append, List.nil_append])
/-- a known truth decides -/
local macro_rules | `(tactic| walk_at "t") => `(tactic| first | ((with_reducible refine split_t ?_ ?_); (· walk_at "sd")) | ((with_reducible refine split_t' ?_ ?_); (· walk_at "sd")))
local macro_rules | `(tactic| walk_at "f") => `(tactic| first | ((with_reducible refine split_f ?_ ?_); (· walk_at "sd")) | ((with_reducible refine split_f' ?_ ?_); (· walk_at "sd")))
/-- all that is seen in a look -/
local macro_rules | `(tactic| walk_at "v") => `(tactic| (rw [sealAll_mk (by (simp only [List.set_cons_zero, List.set_cons_succ, List.map_cons, List.map_nil, sealS_none, sealS_dat, sealS_scr, sealS_own, List.getElem?_cons_zero, List.getElem?_cons_succ, sealC_lst]; rfl)) (by (simp only [List.set_cons_zero, List.set_cons_succ, List.map_cons, List.map_nil]; rfl))]))
theorem ed_notInI {ns : List Int} {i : Int} {Q : D → Prop} (h : Q (.bool (!decide (i ∈ ns)))) : Ed (dNotIn (.int i) (.list (ns.map PyData.int))) Q := by
  refine ⟨_, ?_, h⟩
  dsimp only [dNotIn]
  rw [if_pos ⟨(fine_int i).shaped, (fine_list (n := 0) fun d hd => by obtain ⟨n, _, rfl⟩ := List.mem_map.mp hd; exact fine_int n).shaped⟩]
  congr 3
  rw [Bool.eq_iff_iff, List.any_map, List.any_eq_true, decide_eq_true_eq]
  constructor
  · rintro ⟨x, hx, e⟩
    have : x = i := by simpa [PyData.eqv] using e
    exact this ▸ hx
  · intro hx
    exact ⟨i, hx, by simp [PyData.eqv]⟩
namespace Sp
end Sp
end Lw

set_option maxHeartbeats 4000000
namespace Lw
open PySem Fu
local macro_rules | `(tactic| walk_at "e1") => `(tactic| first
  | with_reducible refine eo_seq ?_ | (with_reducible refine then_nx' ?_; refine ⟨?_, ?_, ?_⟩; rotate_left; · (try dsimp only [List.set, List.length_cons, List.length_nil, List.cons_append, List.nil_append, Nat.zero_add, Nat.reduceAdd]); exact rfl) | with_reducible refine then_rt ?_ | with_reducible refine eo_if ?_ | with_reducible refine eo_ret ?_ | with_reducible refine eo_set ?_ | with_reducible refine eo_asg ?_ | with_reducible refine eo_drop ?_ | with_reducible refine eo_nx ?_ | with_reducible refine eo_par ?_ | with_reducible refine eo_own ?_ | with_reducible refine eo_retN ?_ | with_reducible refine eo_for ?_ | with_reducible refine eo_retO ?_
  | with_reducible refine ev_c ?_ | (with_reducible refine ev_var ?_; refine ⟨_, rfl, ?_⟩) | with_reducible refine ev_bin ?_ | with_reducible refine ev_un ?_ | with_reducible refine ev_nil ?_ | with_reducible refine ev_cons ?_
  | with_reducible refine ev_tup ?_ | with_reducible refine ev_lst ?_ | with_reducible refine ev_call ?_ | with_reducible refine ev_callF ?_ | with_reducible refine ev_isi ?_ | with_reducible refine ev_isi2 ?_ | with_reducible refine ev_andV ?_ | with_reducible refine ev_orV ?_ | with_reducible refine ev_notV ?_
  | with_reducible refine ev_B ?_ | with_reducible refine ev_and ?_ | with_reducible refine ev_or ?_ | with_reducible refine ev_not ?_ | with_reducible refine ev_yes ?_ | with_reducible refine ev_if ?_ | with_reducible refine ev_no ?_ | with_reducible refine ev_so ?_ | with_reducible refine ev_sl ?_ | with_reducible refine ev_items ?_
  | (with_reducible refine ev_ixO ?_; refine ⟨_, _, rfl, rfl, ?_⟩) | (with_reducible refine ev_varO ?_; refine ⟨_, _, rfl, rfl, ?_⟩) | (with_reducible refine ev_lenO ?_; refine ⟨_, _, rfl, rfl, ?_⟩) | (with_reducible refine ev_scrSl ?_; refine ⟨_, rfl, ?_⟩) | (with_reducible refine ev_scrLen ?_; refine ⟨_, rfl, ?_⟩) | (with_reducible refine ev_callScr ?_; refine ⟨_, rfl, ?_⟩) | (with_reducible refine ev_OL ?_; refine ⟨_, _, rfl, rfl, ?_⟩) | with_reducible refine ev_OR ?_ | with_reducible refine ev_rep ?_ | with_reducible refine ev_listRng1 ?_ | with_reducible refine eo_setO ?_
  | with_reducible refine es_name ?_ | with_reducible refine es_tup2 ?_ | with_reducible refine es_tup3 ?_
  | with_reducible refine ed_addI ?_ | with_reducible refine ed_subI ?_ | with_reducible refine ed_cmp ?_ | with_reducible refine ed_eqI ?_ | with_reducible refine ed_neI ?_ | with_reducible refine ed_slT ?_ | with_reducible refine ed_slL ?_ | with_reducible refine ed_lenT ?_ | with_reducible refine ed_lenL ?_ | with_reducible refine ed_lenS ?_ | with_reducible refine ed_inS ?_ | with_reducible refine ed_itT ?_ | with_reducible refine ed_itL ?_ | with_reducible refine ed_tupL ?_ | with_reducible refine ed_tupT ?_ | with_reducible refine ed_listL ?_ | with_reducible refine ed_listT ?_ | with_reducible refine ed_neg ?_ | with_reducible refine ed_max ?_ | with_reducible refine ed_min ?_ | with_reducible refine ed_intB ?_
  | with_reducible refine ev_rng1 ?_ | with_reducible refine ev_rng2 ?_)
local macro_rules | `(tactic| walk_at "sd") => `(tactic| first | rfl | assumption | (simp only [decide_eq_true_eq, decide_eq_false_iff_not, Bool.not_eq_true', Bool.not_eq_false', Bool.and_eq_true, Bool.or_eq_true, List.length_map, List.length_cons, List.length_nil, List.length_append, List.length_range] at *; omega))
local macro_rules | `(tactic| walk_at "e2") => `(tactic| first
  | walk_at "e1" | with_reducible refine ⟨_, rfl, ?_⟩ | with_reducible refine ⟨_, _, rfl, ?_⟩
  | with_reducible refine And.intro (Eq.refl (List.length _)) ?_ | with_reducible refine And.intro (Nat.le_of_ble_eq_true (n := List.length _) rfl) ?_
  | with_reducible refine And.intro (Eq.refl (_ : Sx)) (?_ : Ed _ _)
  | ((with_reducible refine And.intro ?_ (And.intro ?_ (?_ : Ev _ _))); (· rfl); (· rfl))
  | ((with_reducible refine ed_ixT ?_ ?_ ?_); (· decide); (· rfl)) | ((with_reducible refine ed_ixL ?_ ?_ ?_); (· decide); (· rfl)) | ((with_reducible refine ed_at ?_ ?_ ?_); (· decide); (· rfl))
  | ((with_reducible refine ed_modI ?_ ?_); (· first | decide | omega))
  | with_reducible exact gives_nx | ((with_reducible refine gives_rt ?_); (· rfl)) | ((with_reducible refine And.intro ?_ ?_); (· exact rfl); (· with_reducible exact Eq.refl (_ : Sx))))
local macro_rules | `(tactic| walk_at "e") => `(tactic| repeat walk_at "e2")
/-- begin a def's spec -/
local macro_rules | `(tactic| walk_at "i") => `(tactic| simp only [initS, List.map_cons, List.map_nil, List.length_cons, List.length_nil, Nat.reduceAdd, Nat.reduceSub, List.replicate, List.cons_append, List.nil_append])
/-- a known truth decides -/
local macro_rules | `(tactic| walk_at "t") => `(tactic| first | ((with_reducible refine split_t ?_ ?_); (· walk_at "sd")) | ((with_reducible refine split_t' ?_ ?_); (· walk_at "sd")))
local macro_rules | `(tactic| walk_at "f") => `(tactic| first | ((with_reducible refine split_f ?_ ?_); (· walk_at "sd")) | ((with_reducible refine split_f' ?_ ?_); (· walk_at "sd")))
/-- all that is seen in a look -/
local macro_rules | `(tactic| walk_at "v") => `(tactic| (rw [sealAll_mk (by (simp only [List.set_cons_zero, List.set_cons_succ, List.map_cons, List.map_nil, sealS_none, sealS_dat, sealS_scr, sealS_own, List.getElem?_cons_zero, List.getElem?_cons_succ, sealC_lst]; rfl)) (by (simp only [List.set_cons_zero, List.set_cons_succ, List.map_cons, List.map_nil]; rfl))]))
theorem es_two {g1 g2 : D → Sx → Option Sx} {d e : D} {S : Sx} {W : Sx → Prop} (h : Es (g1 d S) fun S1 => Es (g2 e S1) W) : Es (sTup 2 (sCons g1 (sCons g2 sNil)) (.tuple [d, e]) S) W := by
  obtain ⟨S1, e1, S2, e2, q⟩ := h
  exact ⟨S2, by simp only [sTup, sCons, sNil, List.length_cons, List.length_nil, Nat.reduceAdd, if_true, e1, e2, Option.bind_some], q⟩
theorem es_ixO {i : Nat} {gb : M D} {d : D} {S : Sx} {W : Sx → Prop} (h : ∃ j cs0, S.sl[i]? = some (some (.own j)) ∧ S.os[j]? = some (some (.lst cs0)) ∧ Ev (gb S) fun n S1 => ∃ cs, ∃ k : Nat, S1.os[j]? = some (some (.lst cs)) ∧ n = .int k ∧ k < cs.length ∧ W ⟨S1.sl, S1.os.set j (some (.lst (cs.set k d)))⟩) : Es (sIxO i gb d S) W := by
  obtain ⟨j, cs0, hi, h0, n, S1, e1, cs, k, e2, rfl, hk, q⟩ := h
  have : L2.ixN cs.length (k : Int) = some k := by
    unfold L2.ixN
    rw [if_pos (by omega), if_pos (by omega)]; simp
  exact ⟨_, by simp only [sIxO, ownOf, Fu.cellOf, hi, h0, e1, e2, this, Option.bind_some, setCell], q⟩
namespace Sp
theorem x__law_bent_k15 {c : Nat} {cs : List D} {w : D} {p : Int} {ls : List Ln} {es : List (Int × Int)} (hw : Web w p ls) (hk : WbOk p ls) (hn : ls ≠ []) (he : es ≠ []) (hall : ∀ e ∈ es, EndOk ls.length e) (hz : es.length ≤ 1000) (hR : Reel c cs) (hc : 5 ≤ c) :
    ∃ d cs', m__law_bent_k15 cs [w, lE es] = some (d, cs') ∧ ∃ fs, d = lE fs ∧ (∀ e ∈ fs, EndOk ls.length e) ∧ fs.length ≤ es.length + 1 ∧ Reel (c - 5) cs' := by
  have hn : 0 < ls.length := List.length_pos_iff.mpr hn
  have he : 0 < es.length := List.length_pos_iff.mpr he
  have hn2 := hk.len
  obtain ⟨L, sw, hL⟩ := id hw
  obtain ⟨ys, sy, hl⟩ := lns_len hL
  unfold m__law_bent_k15 lE; refine mIO_of ?_; walk_at "i"; unfold g__law_bent_k15
  walk_at "e"
  refine ev_drawR ⟨_, rfl, ?_⟩
  walk_at "e"
  refine ⟨_, _, _, rfl, rfl, hR, by omega, by simp; omega, by simp; omega, fun v1 cs a1 b1 hR => ?_⟩
  walk_at "e"
  refine ev_drawR ⟨_, rfl, ?_⟩
  walk_at "e"
  refine ⟨_, _, _, rfl, rfl, hR, by omega, by decide, by decide, fun v2 cs a2 b2 hR => ?_⟩
  walk_at "e"
  refine ev_drawR ⟨_, rfl, ?_⟩
  walk_at "e"
  refine ed_ixQ sw (by decide) rfl ?_
  walk_at "e"
  refine ed_lenQ sy ?_
  walk_at "e"
  refine ⟨_, _, _, rfl, rfl, hR, by omega, by omega, by omega, fun v3 cs a3 b3 hR => ?_⟩
  walk_at "e"
  refine ev_drawR ⟨_, rfl, ?_⟩
  walk_at "e"
  refine ⟨_, _, _, rfl, rfl, hR, by omega, by decide, by decide, fun v4 cs a4 b4 hR => ?_⟩
  walk_at "e"
  obtain ⟨a, rfl⟩ : ∃ a : Nat, v1 = (a : Int) := ⟨v1.toNat, by omega⟩
  have hal : a < es.length := by simpa using b1
  have hany : EndOk ls.length (v3, v4) := ⟨a3, by omega, a4, b4⟩
  have hg : es[a]? = some es[a] := List.getElem?_eq_getElem hal
  have hm : es[a] ∈ es := List.getElem_mem _
  generalize es[a] = e at hg hm
  have hat : (es.map en)[(a : Int).toNat]? = some (en e) := by rw [Int.toNat_natCast, List.getElem?_map, hg]; rfl
  have hcases : v2 = 0 ∨ v2 = 1 ∨ v2 = 2 ∨ v2 = 3 ∨ v2 = 4 ∨ v2 = 5 ∨ v2 = 6 ∨ v2 = 7 ∨ v2 = 8 := by omega
  rcases hcases with rfl | rfl | rfl | rfl | rfl | rfl | rfl | rfl | rfl
  · -- kind 0
    walk_at "t"
    walk_at "e"
    refine ed_at (by omega) hat ?_
    walk_at "e"
    refine ed_ixQ (isEn_en _) (by decide) rfl ?_
    walk_at "e"
    refine ed_at (by omega) hat ?_
    walk_at "e"
    refine ed_ixQ (isEn_en _) (by decide) rfl ?_
    walk_at "e"
    refine ⟨1, _, rfl, rfl, ?_⟩
    walk_at "e"
    refine ⟨rfl, a, rfl, by simpa using hal, ?_⟩
    walk_at "e"
    walk_at "f"
    walk_at "e"
    walk_at "f"
    walk_at "e"
    walk_at "f"
    walk_at "e"
    walk_at "f"
    walk_at "e"
    walk_at "f"
    walk_at "e"
    walk_at "f"
    walk_at "e"
    walk_at "f"
    walk_at "e"
    walk_at "f"
    walk_at "e"
    exact ⟨cs, rfl, es.set a (far e), by rw [List.map_set]; rfl, fun f hf => (List.mem_or_eq_of_mem_set hf).elim (hall f) fun z => z ▸ (hall _ hm).far, by simp, hR.mono (by omega)⟩
  · -- kind 1
    walk_at "f"
    walk_at "e"
    walk_at "t"
    walk_at "e"
    refine ⟨1, _, rfl, rfl, ?_⟩
    walk_at "e"
    refine ⟨rfl, a, rfl, by simpa using hal, ?_⟩
    walk_at "e"
    walk_at "f"
    walk_at "e"
    walk_at "f"
    walk_at "e"
    walk_at "f"
    walk_at "e"
    walk_at "f"
    walk_at "e"
    walk_at "f"
    walk_at "e"
    walk_at "f"
    walk_at "e"
    walk_at "f"
    walk_at "e"
    exact ⟨cs, rfl, es.set a (v3, v4), by rw [List.map_set]; rfl, fun f hf => (List.mem_or_eq_of_mem_set hf).elim (hall f) fun z => z ▸ hany, by simp, hR.mono (by omega)⟩
  · -- kind 2
    walk_at "f"
    walk_at "e"
    walk_at "f"
    walk_at "e"
    walk_at "t"
    walk_at "e"
    refine ev_slO ⟨_, rfl, ?_⟩
    walk_at "e"
    refine ev_slO ⟨_, rfl, ?_⟩
    walk_at "e"
    rw [cut_to (by omega), cut_from (by omega)]
    refine ed_addL (by simp; omega) ?_
    walk_at "e"
    walk_at "f"
    walk_at "e"
    walk_at "f"
    walk_at "e"
    walk_at "f"
    walk_at "e"
    walk_at "f"
    walk_at "e"
    walk_at "f"
    walk_at "e"
    walk_at "f"
    walk_at "e"
    exact ⟨cs, rfl, es.take a ++ es.drop (a + 1), by rw [List.map_append, List.map_take, List.map_drop]; rfl, fun f hf => (List.mem_append.mp hf).elim (fun h => hall f (List.mem_of_mem_take h)) fun h => hall f (List.mem_of_mem_drop h), by simp; omega, hR.mono (by omega)⟩
  · -- kind 3
    walk_at "f"
    walk_at "e"
    walk_at "f"
    walk_at "e"
    walk_at "f"
    walk_at "e"
    walk_at "t"
    walk_at "e"
    refine ev_slO ⟨_, rfl, ?_⟩
    walk_at "e"
    refine ed_at (by omega) hat ?_
    walk_at "e"
    rw [cut_to (by omega)]
    refine ed_addL (by simp; omega) ?_
    refine ev_slO ⟨_, rfl, ?_⟩
    walk_at "e"
    rw [cut_from (by omega)]
    refine ed_addL (by simp; omega) ?_
    walk_at "e"
    walk_at "f"
    walk_at "e"
    walk_at "f"
    walk_at "e"
    walk_at "f"
    walk_at "e"
    walk_at "f"
    walk_at "e"
    walk_at "f"
    walk_at "e"
    exact ⟨cs, rfl, es.take a ++ [e] ++ es.drop a, by rw [List.map_append, List.map_append, List.map_take, List.map_drop]; rfl, fun f hf => by
      rcases List.mem_append.mp hf with hf | hf
      · rcases List.mem_append.mp hf with hf | hf
        · exact hall f (List.mem_of_mem_take hf)
        · rw [List.mem_singleton.mp hf]; exact hall _ hm
      · exact hall f (List.mem_of_mem_drop hf), by simp; omega, hR.mono (by omega)⟩
  · -- kind 4
    walk_at "f"
    walk_at "e"
    walk_at "f"
    walk_at "e"
    walk_at "f"
    walk_at "e"
    walk_at "f"
    walk_at "e"
    walk_at "t"
    walk_at "e"
    refine ed_rev ⟨_, rfl, ?_⟩
    walk_at "e"
    walk_at "f"
    walk_at "e"
    walk_at "f"
    walk_at "e"
    walk_at "f"
    walk_at "e"
    walk_at "f"
    walk_at "e"
    exact ⟨cs, rfl, es.reverse, by rw [List.map_reverse], fun f hf => hall f (List.mem_reverse.mp hf), by simp, hR.mono (by omega)⟩
  · -- kind 5
    walk_at "f"
    walk_at "e"
    walk_at "f"
    walk_at "e"
    walk_at "f"
    walk_at "e"
    walk_at "f"
    walk_at "e"
    walk_at "f"
    walk_at "e"
    walk_at "t"
    walk_at "e"
    refine ev_slO ⟨_, rfl, ?_⟩
    walk_at "e"
    refine ev_slO ⟨_, rfl, ?_⟩
    walk_at "e"
    rw [cut_to (by omega), cut_from (by omega)]
    refine ed_addL (by simp; omega) ?_
    walk_at "e"
    walk_at "f"
    walk_at "e"
    walk_at "f"
    walk_at "e"
    walk_at "f"
    walk_at "e"
    exact ⟨cs, rfl, es.drop a ++ es.take a, by rw [List.map_append, List.map_take, List.map_drop]; rfl, fun f hf => (List.mem_append.mp hf).elim (fun h => hall f (List.mem_of_mem_drop h)) fun h => hall f (List.mem_of_mem_take h), by simp; omega, hR.mono (by omega)⟩
  · -- kind 6
    walk_at "f"
    walk_at "e"
    walk_at "f"
    walk_at "e"
    walk_at "f"
    walk_at "e"
    walk_at "f"
    walk_at "e"
    walk_at "f"
    walk_at "e"
    walk_at "f"
    walk_at "e"
    walk_at "t"
    walk_at "e"
    refine ev_slO ⟨_, rfl, ?_⟩
    walk_at "e"
    rw [cut_to (by omega)]
    refine ed_addL (by simp; omega) ?_
    refine ev_slO ⟨_, rfl, ?_⟩
    walk_at "e"
    rw [cut_from (by omega)]
    refine ed_addL (by simp; omega) ?_
    walk_at "e"
    walk_at "f"
    walk_at "e"
    walk_at "f"
    walk_at "e"
    exact ⟨cs, rfl, es.take a ++ [(v3, v4)] ++ es.drop a, by rw [List.map_append, List.map_append, List.map_take, List.map_drop]; rfl, fun f hf => by
      rcases List.mem_append.mp hf with hf | hf
      · rcases List.mem_append.mp hf with hf | hf
        · exact hall f (List.mem_of_mem_take hf)
        · rw [List.mem_singleton.mp hf]; exact hany
      · exact hall f (List.mem_of_mem_drop hf), by simp; omega, hR.mono (by omega)⟩
  · -- kind 7
    walk_at "f"
    walk_at "e"
    walk_at "f"
    walk_at "e"
    walk_at "f"
    walk_at "e"
    walk_at "f"
    walk_at "e"
    walk_at "f"
    walk_at "e"
    walk_at "f"
    walk_at "e"
    walk_at "f"
    walk_at "e"
    walk_at "t"
    walk_at "e"
    refine ev_slO ⟨_, rfl, ?_⟩
    walk_at "e"
    rw [cut_to (by omega)]
    walk_at "e"
    walk_at "f"
    walk_at "e"
    exact ⟨cs, rfl, es.take (a + 1), by rw [List.map_take]; rfl, fun f hf => hall f (List.mem_of_mem_take hf), by simp; omega, hR.mono (by omega)⟩
  · -- kind 8
    walk_at "f"
    walk_at "e"
    walk_at "f"
    walk_at "e"
    walk_at "f"
    walk_at "e"
    walk_at "f"
    walk_at "e"
    walk_at "f"
    walk_at "e"
    walk_at "f"
    walk_at "e"
    walk_at "f"
    walk_at "e"
    walk_at "f"
    walk_at "e"
    walk_at "t"
    walk_at "e"
    refine ev_drawR ⟨_, rfl, ?_⟩
    walk_at "e"
    refine ⟨_, _, _, rfl, rfl, hR, by omega, by simp; omega, by simp; omega, fun v5 cs a5 b5 hR => ?_⟩
    walk_at "e"
    obtain ⟨b, rfl⟩ : ∃ b : Nat, v5 = (b : Int) := ⟨v5.toNat, by omega⟩
    have hbl : b < es.length := by simpa using b5
    have hg2 : es[b]? = some es[b] := List.getElem?_eq_getElem hbl
    have hm2 : es[b] ∈ es := List.getElem_mem _
    generalize es[b] = f at hg2 hm2
    have hbt : (es.map en)[(b : Int).toNat]? = some (en f) := by rw [Int.toNat_natCast, List.getElem?_map, hg2]; rfl
    refine ed_at (by omega) hbt ?_
    walk_at "e"
    refine ed_at (by omega) hat ?_
    walk_at "e"
    refine es_two (es_ixO ⟨_, _, rfl, rfl, ?_⟩)
    walk_at "e"
    refine ⟨_, a, rfl, rfl, by simpa using hal, ?_⟩
    refine es_ixO ⟨_, _, rfl, rfl, ?_⟩
    walk_at "e"
    refine ⟨_, b, rfl, rfl, by simpa using hbl, ?_⟩
    walk_at "e"
    exact ⟨cs, rfl, (es.set a f).set b e, by rw [List.map_set, List.map_set], fun g hg => by
      rcases List.mem_or_eq_of_mem_set hg with hg | rfl
      · rcases List.mem_or_eq_of_mem_set hg with hg | rfl
        · exact hall g hg
        · exact hm2 |> hall g
      · exact hall g hm, by simp, hR.mono (by omega)⟩
end Sp
end Lw

set_option maxHeartbeats 4000000
namespace Lw
open PySem Fu
local macro_rules | `(tactic| walk_at "e1") => `(tactic| first
  | with_reducible refine eo_seq ?_ | (with_reducible refine then_nx' ?_; refine ⟨?_, ?_, ?_⟩; rotate_left; · (try dsimp only [List.set, List.length_cons, List.length_nil, List.cons_append, List.nil_append, Nat.zero_add, Nat.reduceAdd]); exact rfl) | with_reducible refine then_rt ?_ | with_reducible refine eo_if ?_ | with_reducible refine eo_ret ?_ | with_reducible refine eo_set ?_ | with_reducible refine eo_asg ?_ | with_reducible refine eo_drop ?_ | with_reducible refine eo_nx ?_ | with_reducible refine eo_par ?_ | with_reducible refine eo_own ?_ | with_reducible refine eo_retN ?_ | with_reducible refine eo_for ?_ | with_reducible refine eo_retO ?_
  | with_reducible refine ev_c ?_ | (with_reducible refine ev_var ?_; refine ⟨_, rfl, ?_⟩) | with_reducible refine ev_bin ?_ | with_reducible refine ev_un ?_ | with_reducible refine ev_nil ?_ | with_reducible refine ev_cons ?_
  | with_reducible refine ev_tup ?_ | with_reducible refine ev_lst ?_ | with_reducible refine ev_call ?_ | with_reducible refine ev_callF ?_ | with_reducible refine ev_isi ?_ | with_reducible refine ev_isi2 ?_ | with_reducible refine ev_andV ?_ | with_reducible refine ev_orV ?_ | with_reducible refine ev_notV ?_
  | with_reducible refine ev_B ?_ | with_reducible refine ev_and ?_ | with_reducible refine ev_or ?_ | with_reducible refine ev_not ?_ | with_reducible refine ev_yes ?_ | with_reducible refine ev_if ?_ | with_reducible refine ev_no ?_ | with_reducible refine ev_so ?_ | with_reducible refine ev_sl ?_ | with_reducible refine ev_items ?_
  | (with_reducible refine ev_ixO ?_; refine ⟨_, _, rfl, rfl, ?_⟩) | (with_reducible refine ev_varO ?_; refine ⟨_, _, rfl, rfl, ?_⟩) | (with_reducible refine ev_lenO ?_; refine ⟨_, _, rfl, rfl, ?_⟩) | (with_reducible refine ev_scrSl ?_; refine ⟨_, rfl, ?_⟩) | (with_reducible refine ev_scrLen ?_; refine ⟨_, rfl, ?_⟩) | (with_reducible refine ev_callScr ?_; refine ⟨_, rfl, ?_⟩) | (with_reducible refine ev_OL ?_; refine ⟨_, _, rfl, rfl, ?_⟩) | with_reducible refine ev_OR ?_ | with_reducible refine ev_rep ?_ | with_reducible refine ev_listRng1 ?_ | with_reducible refine eo_setO ?_
  | with_reducible refine es_name ?_ | with_reducible refine es_tup2 ?_ | with_reducible refine es_tup3 ?_
  | with_reducible refine ed_addI ?_ | with_reducible refine ed_subI ?_ | with_reducible refine ed_cmp ?_ | with_reducible refine ed_eqI ?_ | with_reducible refine ed_neI ?_ | with_reducible refine ed_slT ?_ | with_reducible refine ed_slL ?_ | with_reducible refine ed_lenT ?_ | with_reducible refine ed_lenL ?_ | with_reducible refine ed_lenS ?_ | with_reducible refine ed_inS ?_ | with_reducible refine ed_itT ?_ | with_reducible refine ed_itL ?_ | with_reducible refine ed_tupL ?_ | with_reducible refine ed_tupT ?_ | with_reducible refine ed_listL ?_ | with_reducible refine ed_listT ?_ | with_reducible refine ed_neg ?_ | with_reducible refine ed_max ?_ | with_reducible refine ed_min ?_ | with_reducible refine ed_intB ?_
  | with_reducible refine ev_rng1 ?_ | with_reducible refine ev_rng2 ?_)
local macro_rules | `(tactic| walk_at "sd") => `(tactic| first | rfl | assumption | (simp only [decide_eq_true_eq, decide_eq_false_iff_not, Bool.not_eq_true', Bool.not_eq_false', Bool.and_eq_true, Bool.or_eq_true, List.length_map, List.length_cons, List.length_nil, List.length_append, List.length_range] at *; omega))
local macro_rules | `(tactic| walk_at "e2") => `(tactic| first
  | walk_at "e1" | with_reducible refine ⟨_, rfl, ?_⟩ | with_reducible refine ⟨_, _, rfl, ?_⟩
  | with_reducible refine And.intro (Eq.refl (List.length _)) ?_ | with_reducible refine And.intro (Nat.le_of_ble_eq_true (n := List.length _) rfl) ?_
  | with_reducible refine And.intro (Eq.refl (_ : Sx)) (?_ : Ed _ _)
  | ((with_reducible refine And.intro ?_ (And.intro ?_ (?_ : Ev _ _))); (· rfl); (· rfl))
  | ((with_reducible refine ed_ixT ?_ ?_ ?_); (· decide); (· rfl)) | ((with_reducible refine ed_ixL ?_ ?_ ?_); (· decide); (· rfl)) | ((with_reducible refine ed_at ?_ ?_ ?_); (· decide); (· rfl))
  | ((with_reducible refine ed_modI ?_ ?_); (· first | decide | omega))
  | with_reducible exact gives_nx | ((with_reducible refine gives_rt ?_); (· rfl)) | ((with_reducible refine And.intro ?_ ?_); (· exact rfl); (· with_reducible exact Eq.refl (_ : Sx))))
local macro_rules | `(tactic| walk_at "e") => `(tactic| repeat walk_at "e2")
/-- begin a def's spec -/
local macro_rules | `(tactic| walk_at "i") => `(tactic| simp only [initS, List.map_cons, List.map_nil, List.length_cons, List.length_nil, Nat.reduceAdd, Nat.reduceSub, List.replicate, List.cons_append, List.nil_append])
/-- a known truth decides -/
local macro_rules | `(tactic| walk_at "t") => `(tactic| first | ((with_reducible refine split_t ?_ ?_); (· walk_at "sd")) | ((with_reducible refine split_t' ?_ ?_); (· walk_at "sd")))
local macro_rules | `(tactic| walk_at "f") => `(tactic| first | ((with_reducible refine split_f ?_ ?_); (· walk_at "sd")) | ((with_reducible refine split_f' ?_ ?_); (· walk_at "sd")))
/-- all that is seen in a look -/
local macro_rules | `(tactic| walk_at "v") => `(tactic| (rw [sealAll_mk (by (simp only [List.set_cons_zero, List.set_cons_succ, List.map_cons, List.map_nil, sealS_none, sealS_dat, sealS_scr, sealS_own, List.getElem?_cons_zero, List.getElem?_cons_succ, sealC_lst]; rfl)) (by (simp only [List.set_cons_zero, List.set_cons_succ, List.map_cons, List.map_nil]; rfl))]))
namespace Sp
theorem x__law_handed {c : Nat} {cs : List D} {d : D} (hR : Reel c cs) (hc : 1 ≤ c) (hd : d.depth < 8) : ∃ z cs', m__law_handed cs [d] = some (z, cs') ∧ (z = d ∨ z = listsD d) ∧ Reel (c - 1) cs' := by
  unfold m__law_handed; refine mIO_of ?_; walk_at "i"; unfold g__law_handed
  walk_at "e"
  refine ev_drawR ⟨_, rfl, ?_⟩
  walk_at "e"
  refine ⟨_, _, _, rfl, rfl, hR, by omega, by decide, by decide, fun v cs a b hR => ?_⟩
  walk_at "e"
  refine ⟨fun _ => ?_, fun _ => ?_⟩
  · walk_at "e"
    exact ⟨cs, rfl, .inl rfl, hR⟩
  · walk_at "e"
    refine Ed.of (x_lists 8 d hd) ?_
    exact ⟨cs, rfl, .inr rfl, hR⟩
end Sp
end Lw

set_option maxHeartbeats 4000000
namespace Lw
open PySem Fu
local macro_rules | `(tactic| walk_at "e1") => `(tactic| first
  | with_reducible refine eo_seq ?_ | (with_reducible refine then_nx' ?_; refine ⟨?_, ?_, ?_⟩; rotate_left; · (try dsimp only [List.set, List.length_cons, List.length_nil, List.cons_append, List.nil_append, Nat.zero_add, Nat.reduceAdd]); exact rfl) | with_reducible refine then_rt ?_ | with_reducible refine eo_if ?_ | with_reducible refine eo_ret ?_ | with_reducible refine eo_set ?_ | with_reducible refine eo_asg ?_ | with_reducible refine eo_drop ?_ | with_reducible refine eo_nx ?_ | with_reducible refine eo_par ?_ | with_reducible refine eo_own ?_ | with_reducible refine eo_retN ?_ | with_reducible refine eo_for ?_ | with_reducible refine eo_retO ?_
  | with_reducible refine ev_c ?_ | (with_reducible refine ev_var ?_; refine ⟨_, rfl, ?_⟩) | with_reducible refine ev_bin ?_ | with_reducible refine ev_un ?_ | with_reducible refine ev_nil ?_ | with_reducible refine ev_cons ?_
  | with_reducible refine ev_tup ?_ | with_reducible refine ev_lst ?_ | with_reducible refine ev_call ?_ | with_reducible refine ev_callF ?_ | with_reducible refine ev_isi ?_ | with_reducible refine ev_isi2 ?_ | with_reducible refine ev_andV ?_ | with_reducible refine ev_orV ?_ | with_reducible refine ev_notV ?_
  | with_reducible refine ev_B ?_ | with_reducible refine ev_and ?_ | with_reducible refine ev_or ?_ | with_reducible refine ev_not ?_ | with_reducible refine ev_yes ?_ | with_reducible refine ev_if ?_ | with_reducible refine ev_no ?_ | with_reducible refine ev_so ?_ | with_reducible refine ev_sl ?_ | with_reducible refine ev_items ?_
  | (with_reducible refine ev_ixO ?_; refine ⟨_, _, rfl, rfl, ?_⟩) | (with_reducible refine ev_varO ?_; refine ⟨_, _, rfl, rfl, ?_⟩) | (with_reducible refine ev_lenO ?_; refine ⟨_, _, rfl, rfl, ?_⟩) | (with_reducible refine ev_scrSl ?_; refine ⟨_, rfl, ?_⟩) | (with_reducible refine ev_scrLen ?_; refine ⟨_, rfl, ?_⟩) | (with_reducible refine ev_callScr ?_; refine ⟨_, rfl, ?_⟩) | (with_reducible refine ev_OL ?_; refine ⟨_, _, rfl, rfl, ?_⟩) | with_reducible refine ev_OR ?_ | with_reducible refine ev_rep ?_ | with_reducible refine ev_listRng1 ?_ | with_reducible refine eo_setO ?_
  | with_reducible refine es_name ?_ | with_reducible refine es_tup2 ?_ | with_reducible refine es_tup3 ?_
  | with_reducible refine ed_addI ?_ | with_reducible refine ed_subI ?_ | with_reducible refine ed_cmp ?_ | with_reducible refine ed_eqI ?_ | with_reducible refine ed_neI ?_ | with_reducible refine ed_slT ?_ | with_reducible refine ed_slL ?_ | with_reducible refine ed_lenT ?_ | with_reducible refine ed_lenL ?_ | with_reducible refine ed_lenS ?_ | with_reducible refine ed_inS ?_ | with_reducible refine ed_itT ?_ | with_reducible refine ed_itL ?_ | with_reducible refine ed_tupL ?_ | with_reducible refine ed_tupT ?_ | with_reducible refine ed_listL ?_ | with_reducible refine ed_listT ?_ | with_reducible refine ed_neg ?_ | with_reducible refine ed_max ?_ | with_reducible refine ed_min ?_ | with_reducible refine ed_intB ?_
  | with_reducible refine ev_rng1 ?_ | with_reducible refine ev_rng2 ?_)
local macro_rules | `(tactic| walk_at "sd") => `(tactic| first | rfl | assumption | (simp only [decide_eq_true_eq, decide_eq_false_iff_not, Bool.not_eq_true', Bool.not_eq_false', Bool.and_eq_true, Bool.or_eq_true, List.length_map, List.length_cons, List.length_nil, List.length_append, List.length_range] at *; omega))
local macro_rules | `(tactic| walk_at "e2") => `(tactic| first
  | walk_at "e1" | with_reducible refine ⟨_, rfl, ?_⟩ | with_reducible refine ⟨_, _, rfl, ?_⟩
  | with_reducible refine And.intro (Eq.refl (List.length _)) ?_ | with_reducible refine And.intro (Nat.le_of_ble_eq_true (n := List.length _) rfl) ?_
  | with_reducible refine And.intro (Eq.refl (_ : Sx)) (?_ : Ed _ _)
  | ((with_reducible refine And.intro ?_ (And.intro ?_ (?_ : Ev _ _))); (· rfl); (· rfl))
  | ((with_reducible refine ed_ixT ?_ ?_ ?_); (· decide); (· rfl)) | ((with_reducible refine ed_ixL ?_ ?_ ?_); (· decide); (· rfl)) | ((with_reducible refine ed_at ?_ ?_ ?_); (· decide); (· rfl))
  | ((with_reducible refine ed_modI ?_ ?_); (· first | decide | omega))
  | with_reducible exact gives_nx | ((with_reducible refine gives_rt ?_); (· rfl)) | ((with_reducible refine And.intro ?_ ?_); (· exact rfl); (· with_reducible exact Eq.refl (_ : Sx))))
local macro_rules | `(tactic| walk_at "e") => `(tactic| repeat walk_at "e2")
/-- begin a def's spec -/
local macro_rules | `(tactic| walk_at "i") => `(tactic| simp only [initS, List.map_cons, List.map_nil, List.length_cons, List.length_nil, Nat.reduceAdd, Nat.reduceSub, List.replicate, List.cons_append, List.nil_append])
/-- a known truth decides -/
local macro_rules | `(tactic| walk_at "t") => `(tactic| first | ((with_reducible refine split_t ?_ ?_); (· walk_at "sd")) | ((with_reducible refine split_t' ?_ ?_); (· walk_at "sd")))
local macro_rules | `(tactic| walk_at "f") => `(tactic| first | ((with_reducible refine split_f ?_ ?_); (· walk_at "sd")) | ((with_reducible refine split_f' ?_ ?_); (· walk_at "sd")))
/-- all that is seen in a look -/
local macro_rules | `(tactic| walk_at "v") => `(tactic| (rw [sealAll_mk (by (simp only [List.set_cons_zero, List.set_cons_succ, List.map_cons, List.map_nil, sealS_none, sealS_dat, sealS_scr, sealS_own, List.getElem?_cons_zero, List.getElem?_cons_succ, sealC_lst]; rfl)) (by (simp only [List.set_cons_zero, List.set_cons_succ, List.map_cons, List.map_nil]; rfl))]))
theorem ed_ixLx {xs : List D} {i : Int} {Q : D → Prop} (h : ∃ d, 0 ≤ i ∧ xs[i.toNat]? = some d ∧ Q d) : Ed (dIx (.list xs) (.int i)) Q := by
  obtain ⟨d, h0, e, q⟩ := h
  exact ed_ixL h0 e q
theorem ed_ixTx {xs : List D} {i : Int} {Q : D → Prop} (h : ∃ d, 0 ≤ i ∧ xs[i.toNat]? = some d ∧ Q d) : Ed (dIx (.tuple xs) (.int i)) Q := by
  obtain ⟨d, h0, e, q⟩ := h
  exact ed_ixT h0 e q
theorem es_star {i j : Nat} {d : D} {ds : List D} {S : Sx} {W : Sx → Prop} (h : W ⟨(S.sl.set i (some (.dat d))).set j (some (.dat (.list ds))), S.os⟩) : Es (sStar1 (sCons (sName i) (sCons (sName j) sNil)) (.list (d :: ds)) S) W := ⟨_, rfl, h⟩
theorem ed_dneSelf {x : Str} {Q : D → Prop} (q : Q (.bool false)) : Ed (dNe (.str x) (.str x)) Q := ⟨_, dNe_str_self x, q⟩
theorem ed_deqSelf {x : Str} {Q : D → Prop} (q : Q (.bool true)) : Ed (dEq (.str x) (.str x)) Q := ⟨_, dEq_str_self x, q⟩
section
variable {P R : Prop}
theorem an_tt (h : P) : (true = true → P) ∧ (true = false → R) := ⟨fun _ => h, fun z => (nomatch z)⟩
theorem an_ft (h : P) : (false = true → R) ∧ (false = false → P) := ⟨fun z => (nomatch z), fun _ => h⟩
theorem an_tf (h : P) : (true = false → R) ∧ (true = true → P) := ⟨fun z => (nomatch z), fun _ => h⟩
theorem an_ff (h : P) : (false = false → P) ∧ (false = true → R) := ⟨fun _ => h, fun z => (nomatch z)⟩
theorem an_ntt (h : P) : ((!true) = true → R) ∧ ((!true) = false → P) := ⟨fun z => absurd z (by decide), fun _ => h⟩
theorem an_nft (h : P) : ((!false) = true → P) ∧ ((!false) = false → R) := ⟨fun _ => h, fun z => absurd z (by decide)⟩
theorem an_ntf (h : P) : ((!true) = false → P) ∧ ((!true) = true → R) := ⟨fun _ => h, fun z => absurd z (by decide)⟩
theorem an_nff (h : P) : ((!false) = false → R) ∧ ((!false) = true → P) := ⟨fun z => absurd z (by decide), fun _ => h⟩
end
end Lw

set_option maxHeartbeats 4000000
namespace Lw
open PySem Fu
local macro_rules | `(tactic| walk_at "e1") => `(tactic| first
  | with_reducible refine eo_seq ?_ | (with_reducible refine then_nx' ?_; refine ⟨?_, ?_, ?_⟩; rotate_left; · (try dsimp only [List.set, List.length_cons, List.length_nil, List.cons_append, List.nil_append, Nat.zero_add, Nat.reduceAdd]); exact rfl) | with_reducible refine then_rt ?_ | with_reducible refine eo_if ?_ | with_reducible refine eo_ret ?_ | with_reducible refine eo_set ?_ | with_reducible refine eo_asg ?_ | with_reducible refine eo_drop ?_ | with_reducible refine eo_nx ?_ | with_reducible refine eo_par ?_ | with_reducible refine eo_own ?_ | with_reducible refine eo_retN ?_ | with_reducible refine eo_for ?_ | with_reducible refine eo_retO ?_
  | with_reducible refine ev_c ?_ | (with_reducible refine ev_var ?_; refine ⟨_, rfl, ?_⟩) | with_reducible refine ev_bin ?_ | with_reducible refine ev_un ?_ | with_reducible refine ev_nil ?_ | with_reducible refine ev_cons ?_
  | with_reducible refine ev_tup ?_ | with_reducible refine ev_lst ?_ | with_reducible refine ev_call ?_ | with_reducible refine ev_callF ?_ | with_reducible refine ev_isi ?_ | with_reducible refine ev_isi2 ?_ | with_reducible refine ev_andV ?_ | with_reducible refine ev_orV ?_ | with_reducible refine ev_notV ?_
  | with_reducible refine ev_B ?_ | with_reducible refine ev_and ?_ | with_reducible refine ev_or ?_ | with_reducible refine ev_not ?_ | with_reducible refine ev_yes ?_ | with_reducible refine ev_if ?_ | with_reducible refine ev_no ?_ | with_reducible refine ev_so ?_ | with_reducible refine ev_sl ?_ | with_reducible refine ev_items ?_
  | (with_reducible refine ev_ixO ?_; refine ⟨_, _, rfl, rfl, ?_⟩) | (with_reducible refine ev_varO ?_; refine ⟨_, _, rfl, rfl, ?_⟩) | (with_reducible refine ev_lenO ?_; refine ⟨_, _, rfl, rfl, ?_⟩) | (with_reducible refine ev_scrSl ?_; refine ⟨_, rfl, ?_⟩) | (with_reducible refine ev_scrLen ?_; refine ⟨_, rfl, ?_⟩) | (with_reducible refine ev_callScr ?_; refine ⟨_, rfl, ?_⟩) | (with_reducible refine ev_OL ?_; refine ⟨_, _, rfl, rfl, ?_⟩) | with_reducible refine ev_OR ?_ | with_reducible refine ev_rep ?_ | with_reducible refine ev_listRng1 ?_ | with_reducible refine eo_setO ?_
  | with_reducible refine es_name ?_ | with_reducible refine es_tup2 ?_ | with_reducible refine es_tup3 ?_
  | with_reducible refine ed_addI ?_ | with_reducible refine ed_subI ?_ | with_reducible refine ed_cmp ?_ | with_reducible refine ed_eqI ?_ | with_reducible refine ed_neI ?_ | with_reducible refine ed_slT ?_ | with_reducible refine ed_slL ?_ | with_reducible refine ed_lenT ?_ | with_reducible refine ed_lenL ?_ | with_reducible refine ed_lenS ?_ | with_reducible refine ed_inS ?_ | with_reducible refine ed_itT ?_ | with_reducible refine ed_itL ?_ | with_reducible refine ed_tupL ?_ | with_reducible refine ed_tupT ?_ | with_reducible refine ed_listL ?_ | with_reducible refine ed_listT ?_ | with_reducible refine ed_neg ?_ | with_reducible refine ed_max ?_ | with_reducible refine ed_min ?_ | with_reducible refine ed_intB ?_
  | with_reducible refine ev_rng1 ?_ | with_reducible refine ev_rng2 ?_)
local macro_rules | `(tactic| walk_at "sd") => `(tactic| first | rfl | assumption | (simp only [decide_eq_true_eq, decide_eq_false_iff_not, Bool.not_eq_true', Bool.not_eq_false', Bool.and_eq_true, Bool.or_eq_true, List.length_map, List.length_cons, List.length_nil, List.length_append, List.length_range] at *; omega))
local macro_rules | `(tactic| walk_at "e2") => `(tactic| first
  | walk_at "e1" | with_reducible refine ⟨_, rfl, ?_⟩ | with_reducible refine ⟨_, _, rfl, ?_⟩
  | with_reducible refine And.intro (Eq.refl (List.length _)) ?_ | with_reducible refine And.intro (Nat.le_of_ble_eq_true (n := List.length _) rfl) ?_
  | with_reducible refine And.intro (Eq.refl (_ : Sx)) (?_ : Ed _ _)
  | ((with_reducible refine And.intro ?_ (And.intro ?_ (?_ : Ev _ _))); (· rfl); (· rfl))
  | ((with_reducible refine ed_ixTx ?_); refine ⟨_, by decide, rfl, ?_⟩) | ((with_reducible refine ed_ixLx ?_); refine ⟨_, by decide, rfl, ?_⟩) | ((with_reducible refine es_star ?_))
  | with_reducible refine an_tt ?_ | with_reducible refine an_ft ?_ | with_reducible refine an_tf ?_ | with_reducible refine an_ff ?_ | with_reducible refine an_ntt ?_ | with_reducible refine an_nft ?_ | with_reducible refine an_ntf ?_ | with_reducible refine an_nff ?_
  | ((with_reducible refine ed_dneSelf ?_)) | ((with_reducible refine ed_deqSelf ?_))
  | ((with_reducible refine ed_ixT ?_ ?_ ?_); (· decide); (· rfl)) | ((with_reducible refine ed_ixL ?_ ?_ ?_); (· decide); (· rfl)) | ((with_reducible refine ed_at ?_ ?_ ?_); (· decide); (· rfl))
  | ((with_reducible refine ed_modI ?_ ?_); (· first | decide | omega))
  | with_reducible exact gives_nx | ((with_reducible refine gives_rt ?_); (· rfl)) | ((with_reducible refine And.intro ?_ ?_); (· exact rfl); (· with_reducible exact Eq.refl (_ : Sx))))
local macro_rules | `(tactic| walk_at "e") => `(tactic| repeat walk_at "e2")
/-- begin a def's spec -/
local macro_rules | `(tactic| walk_at "i") => `(tactic| simp only [initS, List.map_cons, List.map_nil, List.length_cons, List.length_nil, Nat.reduceAdd, Nat.reduceSub, List.replicate, List.cons_append, List.nil_append])
/-- a known truth decides -/
local macro_rules | `(tactic| walk_at "t") => `(tactic| first | ((with_reducible refine split_t ?_ ?_); (· walk_at "sd")) | ((with_reducible refine split_t' ?_ ?_); (· walk_at "sd")))
local macro_rules | `(tactic| walk_at "f") => `(tactic| first | ((with_reducible refine split_f ?_ ?_); (· walk_at "sd")) | ((with_reducible refine split_f' ?_ ?_); (· walk_at "sd")))
/-- all that is seen in a look -/
local macro_rules | `(tactic| walk_at "v") => `(tactic| (rw [sealAll_mk (by (simp only [List.set_cons_zero, List.set_cons_succ, List.map_cons, List.map_nil, sealS_none, sealS_dat, sealS_scr, sealS_own, List.getElem?_cons_zero, List.getElem?_cons_succ, sealC_lst]; rfl)) (by (simp only [List.set_cons_zero, List.set_cons_succ, List.map_cons, List.map_nil]; rfl))]))
/-! #### plans judged -/
theorem good_en (e : Int × Int) : Good 1 (en e) := good_tup fun d hd => by
  simp only [List.mem_cons, List.not_mem_nil, or_false] at hd
  rcases hd with rfl | rfl <;> exact good_int _
def told (xs es : List D) : List (Int × Int) := (xs.flatMap fun x => [unEn (atD x 0), unEn (atD x 1)]) ++ es.map unEn
theorem row2 {x : D} (h : rowD 2 x = true) : ∃ a b, Sq x [a, b] := by
  obtain ⟨xs, s, hl⟩ := row_of h
  match xs, hl with
  | [a, b], _ => exact ⟨a, b, s⟩
theorem atD0 {x a b : D} (s : Sq x [a, b]) : atD x 0 = a := by rw [sq_at s]; rfl
theorem atD1 {x a b : D} (s : Sq x [a, b]) : atD x 1 = b := by rw [sq_at s]; rfl
end Lw

set_option maxHeartbeats 4000000
namespace Lw
open PySem Fu
local macro_rules | `(tactic| walk_at "e1") => `(tactic| first
  | with_reducible refine eo_seq ?_ | (with_reducible refine then_nx' ?_; refine ⟨?_, ?_, ?_⟩; rotate_left; · (try dsimp only [List.set, List.length_cons, List.length_nil, List.cons_append, List.nil_append, Nat.zero_add, Nat.reduceAdd]); exact rfl) | with_reducible refine then_rt ?_ | with_reducible refine eo_if ?_ | with_reducible refine eo_ret ?_ | with_reducible refine eo_set ?_ | with_reducible refine eo_asg ?_ | with_reducible refine eo_drop ?_ | with_reducible refine eo_nx ?_ | with_reducible refine eo_par ?_ | with_reducible refine eo_own ?_ | with_reducible refine eo_retN ?_ | with_reducible refine eo_for ?_ | with_reducible refine eo_retO ?_
  | with_reducible refine ev_c ?_ | (with_reducible refine ev_var ?_; refine ⟨_, rfl, ?_⟩) | with_reducible refine ev_bin ?_ | with_reducible refine ev_un ?_ | with_reducible refine ev_nil ?_ | with_reducible refine ev_cons ?_
  | with_reducible refine ev_tup ?_ | with_reducible refine ev_lst ?_ | with_reducible refine ev_call ?_ | with_reducible refine ev_callF ?_ | with_reducible refine ev_isi ?_ | with_reducible refine ev_isi2 ?_ | with_reducible refine ev_andV ?_ | with_reducible refine ev_orV ?_ | with_reducible refine ev_notV ?_
  | with_reducible refine ev_B ?_ | with_reducible refine ev_and ?_ | with_reducible refine ev_or ?_ | with_reducible refine ev_not ?_ | with_reducible refine ev_yes ?_ | with_reducible refine ev_if ?_ | with_reducible refine ev_no ?_ | with_reducible refine ev_so ?_ | with_reducible refine ev_sl ?_ | with_reducible refine ev_items ?_
  | (with_reducible refine ev_ixO ?_; refine ⟨_, _, rfl, rfl, ?_⟩) | (with_reducible refine ev_varO ?_; refine ⟨_, _, rfl, rfl, ?_⟩) | (with_reducible refine ev_lenO ?_; refine ⟨_, _, rfl, rfl, ?_⟩) | (with_reducible refine ev_scrSl ?_; refine ⟨_, rfl, ?_⟩) | (with_reducible refine ev_scrLen ?_; refine ⟨_, rfl, ?_⟩) | (with_reducible refine ev_callScr ?_; refine ⟨_, rfl, ?_⟩) | (with_reducible refine ev_OL ?_; refine ⟨_, _, rfl, rfl, ?_⟩) | with_reducible refine ev_OR ?_ | with_reducible refine ev_rep ?_ | with_reducible refine ev_listRng1 ?_ | with_reducible refine eo_setO ?_
  | with_reducible refine es_name ?_ | with_reducible refine es_tup2 ?_ | with_reducible refine es_tup3 ?_
  | with_reducible refine ed_addI ?_ | with_reducible refine ed_subI ?_ | with_reducible refine ed_cmp ?_ | with_reducible refine ed_eqI ?_ | with_reducible refine ed_neI ?_ | with_reducible refine ed_slT ?_ | with_reducible refine ed_slL ?_ | with_reducible refine ed_lenT ?_ | with_reducible refine ed_lenL ?_ | with_reducible refine ed_lenS ?_ | with_reducible refine ed_inS ?_ | with_reducible refine ed_itT ?_ | with_reducible refine ed_itL ?_ | with_reducible refine ed_tupL ?_ | with_reducible refine ed_tupT ?_ | with_reducible refine ed_listL ?_ | with_reducible refine ed_listT ?_ | with_reducible refine ed_neg ?_ | with_reducible refine ed_max ?_ | with_reducible refine ed_min ?_ | with_reducible refine ed_intB ?_
  | with_reducible refine ev_rng1 ?_ | with_reducible refine ev_rng2 ?_)
local macro_rules | `(tactic| walk_at "sd") => `(tactic| first | rfl | assumption | (simp only [decide_eq_true_eq, decide_eq_false_iff_not, Bool.not_eq_true', Bool.not_eq_false', Bool.and_eq_true, Bool.or_eq_true, List.length_map, List.length_cons, List.length_nil, List.length_append, List.length_range] at *; omega))
local macro_rules | `(tactic| walk_at "e2") => `(tactic| first
  | walk_at "e1" | with_reducible refine ⟨_, rfl, ?_⟩ | with_reducible refine ⟨_, _, rfl, ?_⟩
  | with_reducible refine And.intro (Eq.refl (List.length _)) ?_ | with_reducible refine And.intro (Nat.le_of_ble_eq_true (n := List.length _) rfl) ?_
  | with_reducible refine And.intro (Eq.refl (_ : Sx)) (?_ : Ed _ _)
  | ((with_reducible refine And.intro ?_ (And.intro ?_ (?_ : Ev _ _))); (· rfl); (· rfl))
  | ((with_reducible refine ed_ixTx ?_); refine ⟨_, by decide, rfl, ?_⟩) | ((with_reducible refine ed_ixLx ?_); refine ⟨_, by decide, rfl, ?_⟩) | ((with_reducible refine es_star ?_))
  | with_reducible refine an_tt ?_ | with_reducible refine an_ft ?_ | with_reducible refine an_tf ?_ | with_reducible refine an_ff ?_ | with_reducible refine an_ntt ?_ | with_reducible refine an_nft ?_ | with_reducible refine an_ntf ?_ | with_reducible refine an_nff ?_
  | ((with_reducible refine ed_dneSelf ?_)) | ((with_reducible refine ed_deqSelf ?_))
  | ((with_reducible refine ed_ixT ?_ ?_ ?_); (· decide); (· rfl)) | ((with_reducible refine ed_ixL ?_ ?_ ?_); (· decide); (· rfl)) | ((with_reducible refine ed_at ?_ ?_ ?_); (· decide); (· rfl))
  | ((with_reducible refine ed_modI ?_ ?_); (· first | decide | omega))
  | with_reducible exact gives_nx | ((with_reducible refine gives_rt ?_); (· rfl)) | ((with_reducible refine And.intro ?_ ?_); (· exact rfl); (· with_reducible exact Eq.refl (_ : Sx))))
local macro_rules | `(tactic| walk_at "e") => `(tactic| repeat walk_at "e2")
/-- begin a def's spec -/
local macro_rules | `(tactic| walk_at "i") => `(tactic| simp only [initS, List.map_cons, List.map_nil, List.length_cons, List.length_nil, Nat.reduceAdd, Nat.reduceSub, List.replicate, List.cons_append, List.nil_append])
/-- a known truth decides -/
local macro_rules | `(tactic| walk_at "t") => `(tactic| first | ((with_reducible refine split_t ?_ ?_); (· walk_at "sd")) | ((with_reducible refine split_t' ?_ ?_); (· walk_at "sd")))
local macro_rules | `(tactic| walk_at "f") => `(tactic| first | ((with_reducible refine split_f ?_ ?_); (· walk_at "sd")) | ((with_reducible refine split_f' ?_ ?_); (· walk_at "sd")))
/-- all that is seen in a look -/
local macro_rules | `(tactic| walk_at "v") => `(tactic| (rw [sealAll_mk (by (simp only [List.set_cons_zero, List.set_cons_succ, List.map_cons, List.map_nil, sealS_none, sealS_dat, sealS_scr, sealS_own, List.getElem?_cons_zero, List.getElem?_cons_succ, sealC_lst]; rfl)) (by (simp only [List.set_cons_zero, List.set_cons_succ, List.map_cons, List.map_nil]; rfl))]))
end Lw

set_option maxHeartbeats 4000000
namespace Lw
open PySem Fu
local macro_rules | `(tactic| walk_at "e1") => `(tactic| first
  | with_reducible refine eo_seq ?_ | (with_reducible refine then_nx' ?_; refine ⟨?_, ?_, ?_⟩; rotate_left; · (try dsimp only [List.set, List.length_cons, List.length_nil, List.cons_append, List.nil_append, Nat.zero_add, Nat.reduceAdd]); exact rfl) | with_reducible refine then_rt ?_ | with_reducible refine eo_if ?_ | with_reducible refine eo_ret ?_ | with_reducible refine eo_set ?_ | with_reducible refine eo_asg ?_ | with_reducible refine eo_drop ?_ | with_reducible refine eo_nx ?_ | with_reducible refine eo_par ?_ | with_reducible refine eo_own ?_ | with_reducible refine eo_retN ?_ | with_reducible refine eo_for ?_ | with_reducible refine eo_retO ?_
  | with_reducible refine ev_c ?_ | (with_reducible refine ev_var ?_; refine ⟨_, rfl, ?_⟩) | with_reducible refine ev_bin ?_ | with_reducible refine ev_un ?_ | with_reducible refine ev_nil ?_ | with_reducible refine ev_cons ?_
  | with_reducible refine ev_tup ?_ | with_reducible refine ev_lst ?_ | with_reducible refine ev_call ?_ | with_reducible refine ev_callF ?_ | with_reducible refine ev_isi ?_ | with_reducible refine ev_isi2 ?_ | with_reducible refine ev_andV ?_ | with_reducible refine ev_orV ?_ | with_reducible refine ev_notV ?_
  | with_reducible refine ev_B ?_ | with_reducible refine ev_and ?_ | with_reducible refine ev_or ?_ | with_reducible refine ev_not ?_ | with_reducible refine ev_yes ?_ | with_reducible refine ev_if ?_ | with_reducible refine ev_no ?_ | with_reducible refine ev_so ?_ | with_reducible refine ev_sl ?_ | with_reducible refine ev_items ?_
  | (with_reducible refine ev_ixO ?_; refine ⟨_, _, rfl, rfl, ?_⟩) | (with_reducible refine ev_varO ?_; refine ⟨_, _, rfl, rfl, ?_⟩) | (with_reducible refine ev_lenO ?_; refine ⟨_, _, rfl, rfl, ?_⟩) | (with_reducible refine ev_scrSl ?_; refine ⟨_, rfl, ?_⟩) | (with_reducible refine ev_scrLen ?_; refine ⟨_, rfl, ?_⟩) | (with_reducible refine ev_callScr ?_; refine ⟨_, rfl, ?_⟩) | (with_reducible refine ev_OL ?_; refine ⟨_, _, rfl, rfl, ?_⟩) | with_reducible refine ev_OR ?_ | with_reducible refine ev_rep ?_ | with_reducible refine ev_listRng1 ?_ | with_reducible refine eo_setO ?_
  | with_reducible refine es_name ?_ | with_reducible refine es_tup2 ?_ | with_reducible refine es_tup3 ?_
  | with_reducible refine ed_addI ?_ | with_reducible refine ed_subI ?_ | with_reducible refine ed_cmp ?_ | with_reducible refine ed_eqI ?_ | with_reducible refine ed_neI ?_ | with_reducible refine ed_slT ?_ | with_reducible refine ed_slL ?_ | with_reducible refine ed_lenT ?_ | with_reducible refine ed_lenL ?_ | with_reducible refine ed_lenS ?_ | with_reducible refine ed_inS ?_ | with_reducible refine ed_itT ?_ | with_reducible refine ed_itL ?_ | with_reducible refine ed_tupL ?_ | with_reducible refine ed_tupT ?_ | with_reducible refine ed_listL ?_ | with_reducible refine ed_listT ?_ | with_reducible refine ed_neg ?_ | with_reducible refine ed_max ?_ | with_reducible refine ed_min ?_ | with_reducible refine ed_intB ?_
  | with_reducible refine ev_rng1 ?_ | with_reducible refine ev_rng2 ?_)
local macro_rules | `(tactic| walk_at "sd") => `(tactic| first | rfl | assumption | (simp only [decide_eq_true_eq, decide_eq_false_iff_not, Bool.not_eq_true', Bool.not_eq_false', Bool.and_eq_true, Bool.or_eq_true, List.length_map, List.length_cons, List.length_nil, List.length_append, List.length_range] at *; omega))
local macro_rules | `(tactic| walk_at "e2") => `(tactic| first
  | walk_at "e1" | with_reducible refine ⟨_, rfl, ?_⟩ | with_reducible refine ⟨_, _, rfl, ?_⟩
  | with_reducible refine And.intro (Eq.refl (List.length _)) ?_ | with_reducible refine And.intro (Nat.le_of_ble_eq_true (n := List.length _) rfl) ?_
  | with_reducible refine And.intro (Eq.refl (_ : Sx)) (?_ : Ed _ _)
  | ((with_reducible refine And.intro ?_ (And.intro ?_ (?_ : Ev _ _))); (· rfl); (· rfl))
  | ((with_reducible refine ed_ixT ?_ ?_ ?_); (· decide); (· rfl)) | ((with_reducible refine ed_ixL ?_ ?_ ?_); (· decide); (· rfl)) | ((with_reducible refine ed_at ?_ ?_ ?_); (· decide); (· rfl))
  | ((with_reducible refine ed_modI ?_ ?_); (· first | decide | omega))
  | with_reducible exact gives_nx | ((with_reducible refine gives_rt ?_); (· rfl)) | ((with_reducible refine And.intro ?_ ?_); (· exact rfl); (· with_reducible exact Eq.refl (_ : Sx))))
local macro_rules | `(tactic| walk_at "e") => `(tactic| repeat walk_at "e2")
/-- begin a def's spec -/
local macro_rules | `(tactic| walk_at "i") => `(tactic| simp only [initS, List.map_cons, List.map_nil, List.length_cons, List.length_nil, Nat.reduceAdd, Nat.reduceSub, List.replicate, List.cons_append, List.nil_append])
/-- a known truth decides -/
local macro_rules | `(tactic| walk_at "t") => `(tactic| first | ((with_reducible refine split_t ?_ ?_); (· walk_at "sd")) | ((with_reducible refine split_t' ?_ ?_); (· walk_at "sd")))
local macro_rules | `(tactic| walk_at "f") => `(tactic| first | ((with_reducible refine split_f ?_ ?_); (· walk_at "sd")) | ((with_reducible refine split_f' ?_ ?_); (· walk_at "sd")))
/-- all that is seen in a look -/
local macro_rules | `(tactic| walk_at "v") => `(tactic| (rw [sealAll_mk (by (simp only [List.set_cons_zero, List.set_cons_succ, List.map_cons, List.map_nil, sealS_none, sealS_dat, sealS_scr, sealS_own, List.getElem?_cons_zero, List.getElem?_cons_succ, sealC_lst]; rfl)) (by (simp only [List.set_cons_zero, List.set_cons_succ, List.map_cons, List.map_nil]; rfl))]))
/-! ### groups by companies -/
namespace Gr
open PySem.W (dataLe)
open L2 (Key)
section
variable {α : Type}
def addG : List (Nat × List α) → Nat → α → List (Nat × List α)
  | [], c, e => [(c, [e])]
  | (k, g) :: G, c, e => if k = c then (k, g ++ [e]) :: G else (k, g) :: addG G c e
end
/-! #### the dict and its lists as cells -/
end Gr
end Lw

set_option maxHeartbeats 4000000
namespace Lw
open PySem Fu
local macro_rules | `(tactic| walk_at "e1") => `(tactic| first
  | with_reducible refine eo_seq ?_ | (with_reducible refine then_nx' ?_; refine ⟨?_, ?_, ?_⟩; rotate_left; · (try dsimp only [List.set, List.length_cons, List.length_nil, List.cons_append, List.nil_append, Nat.zero_add, Nat.reduceAdd]); exact rfl) | with_reducible refine then_rt ?_ | with_reducible refine eo_if ?_ | with_reducible refine eo_ret ?_ | with_reducible refine eo_set ?_ | with_reducible refine eo_asg ?_ | with_reducible refine eo_drop ?_ | with_reducible refine eo_nx ?_ | with_reducible refine eo_par ?_ | with_reducible refine eo_own ?_ | with_reducible refine eo_retN ?_ | with_reducible refine eo_for ?_ | with_reducible refine eo_retO ?_
  | with_reducible refine ev_c ?_ | (with_reducible refine ev_var ?_; refine ⟨_, rfl, ?_⟩) | with_reducible refine ev_bin ?_ | with_reducible refine ev_un ?_ | with_reducible refine ev_nil ?_ | with_reducible refine ev_cons ?_
  | with_reducible refine ev_tup ?_ | with_reducible refine ev_lst ?_ | with_reducible refine ev_call ?_ | with_reducible refine ev_callF ?_ | with_reducible refine ev_isi ?_ | with_reducible refine ev_isi2 ?_ | with_reducible refine ev_andV ?_ | with_reducible refine ev_orV ?_ | with_reducible refine ev_notV ?_
  | with_reducible refine ev_B ?_ | with_reducible refine ev_and ?_ | with_reducible refine ev_or ?_ | with_reducible refine ev_not ?_ | with_reducible refine ev_yes ?_ | with_reducible refine ev_if ?_ | with_reducible refine ev_no ?_ | with_reducible refine ev_so ?_ | with_reducible refine ev_sl ?_ | with_reducible refine ev_items ?_
  | (with_reducible refine ev_ixO ?_; refine ⟨_, _, rfl, rfl, ?_⟩) | (with_reducible refine ev_varO ?_; refine ⟨_, _, rfl, rfl, ?_⟩) | (with_reducible refine ev_lenO ?_; refine ⟨_, _, rfl, rfl, ?_⟩) | (with_reducible refine ev_scrSl ?_; refine ⟨_, rfl, ?_⟩) | (with_reducible refine ev_scrLen ?_; refine ⟨_, rfl, ?_⟩) | (with_reducible refine ev_callScr ?_; refine ⟨_, rfl, ?_⟩) | (with_reducible refine ev_OL ?_; refine ⟨_, _, rfl, rfl, ?_⟩) | with_reducible refine ev_OR ?_ | with_reducible refine ev_rep ?_ | with_reducible refine ev_listRng1 ?_ | with_reducible refine eo_setO ?_
  | with_reducible refine es_name ?_ | with_reducible refine es_tup2 ?_ | with_reducible refine es_tup3 ?_
  | with_reducible refine ed_addI ?_ | with_reducible refine ed_subI ?_ | with_reducible refine ed_cmp ?_ | with_reducible refine ed_eqI ?_ | with_reducible refine ed_neI ?_ | with_reducible refine ed_slT ?_ | with_reducible refine ed_slL ?_ | with_reducible refine ed_lenT ?_ | with_reducible refine ed_lenL ?_ | with_reducible refine ed_lenS ?_ | with_reducible refine ed_inS ?_ | with_reducible refine ed_itT ?_ | with_reducible refine ed_itL ?_ | with_reducible refine ed_tupL ?_ | with_reducible refine ed_tupT ?_ | with_reducible refine ed_listL ?_ | with_reducible refine ed_listT ?_ | with_reducible refine ed_neg ?_ | with_reducible refine ed_max ?_ | with_reducible refine ed_min ?_ | with_reducible refine ed_intB ?_
  | with_reducible refine ev_rng1 ?_ | with_reducible refine ev_rng2 ?_)
local macro_rules | `(tactic| walk_at "sd") => `(tactic| first | rfl | assumption | (simp only [decide_eq_true_eq, decide_eq_false_iff_not, Bool.not_eq_true', Bool.not_eq_false', Bool.and_eq_true, Bool.or_eq_true, List.length_map, List.length_cons, List.length_nil, List.length_append, List.length_range] at *; omega))
local macro_rules | `(tactic| walk_at "e2") => `(tactic| first
  | walk_at "e1" | with_reducible refine ⟨_, rfl, ?_⟩ | with_reducible refine ⟨_, _, rfl, ?_⟩
  | with_reducible refine And.intro (Eq.refl (List.length _)) ?_ | with_reducible refine And.intro (Nat.le_of_ble_eq_true (n := List.length _) rfl) ?_
  | with_reducible refine And.intro (Eq.refl (_ : Sx)) (?_ : Ed _ _)
  | ((with_reducible refine And.intro ?_ (And.intro ?_ (?_ : Ev _ _))); (· rfl); (· rfl))
  | ((with_reducible refine ed_ixT ?_ ?_ ?_); (· decide); (· rfl)) | ((with_reducible refine ed_ixL ?_ ?_ ?_); (· decide); (· rfl)) | ((with_reducible refine ed_at ?_ ?_ ?_); (· decide); (· rfl))
  | ((with_reducible refine ed_modI ?_ ?_); (· first | decide | omega))
  | with_reducible exact gives_nx | ((with_reducible refine gives_rt ?_); (· rfl)) | ((with_reducible refine And.intro ?_ ?_); (· exact rfl); (· with_reducible exact Eq.refl (_ : Sx))))
local macro_rules | `(tactic| walk_at "e") => `(tactic| repeat walk_at "e2")
/-- begin a def's spec -/
local macro_rules | `(tactic| walk_at "i") => `(tactic| simp only [initS, List.map_cons, List.map_nil, List.length_cons, List.length_nil, Nat.reduceAdd, Nat.reduceSub, List.replicate, List.cons_append, List.nil_append])
/-- a known truth decides -/
local macro_rules | `(tactic| walk_at "t") => `(tactic| first | ((with_reducible refine split_t ?_ ?_); (· walk_at "sd")) | ((with_reducible refine split_t' ?_ ?_); (· walk_at "sd")))
local macro_rules | `(tactic| walk_at "f") => `(tactic| first | ((with_reducible refine split_f ?_ ?_); (· walk_at "sd")) | ((with_reducible refine split_f' ?_ ?_); (· walk_at "sd")))
/-- all that is seen in a look -/
local macro_rules | `(tactic| walk_at "v") => `(tactic| (rw [sealAll_mk (by (simp only [List.set_cons_zero, List.set_cons_succ, List.map_cons, List.map_nil, sealS_none, sealS_dat, sealS_scr, sealS_own, List.getElem?_cons_zero, List.getElem?_cons_succ, sealC_lst]; rfl)) (by (simp only [List.set_cons_zero, List.set_cons_succ, List.map_cons, List.map_nil]; rfl))]))
namespace Gr
open PySem.W (dataLe)
open L2 (Key)
section
variable {α : Type}
theorem sum_addG {c : Nat} {e : α} : ∀ G : List (Nat × List α), ((addG G c e).map fun g => g.2.length).sum = (G.map fun g => g.2.length).sum + 1
  | [] => rfl
  | (k, g) :: G => by
    unfold addG
    split
    · simp only [List.map_cons, List.sum_cons, List.length_append, List.length_cons, List.length_nil]
      omega
    · simp only [List.map_cons, List.sum_cons, sum_addG G]
      omega
theorem keys_addG {c : Nat} {e : α} : ∀ G : List (Nat × List α), (addG G c e).map (·.1) = if c ∈ G.map (·.1) then G.map (·.1) else G.map (·.1) ++ [c]
  | [] => by simp [addG]
  | (k, g) :: G => by
    unfold addG
    by_cases hk : k = c
    · simp [hk]
    · have hk' : ¬ c = k := fun z => hk z.symm
      simp only [hk, if_false, List.map_cons, keys_addG G, List.mem_cons, hk', false_or]
      split <;> rfl
theorem mem_addG {c : Nat} {e : α} {x : Nat × List α} : ∀ {G : List (Nat × List α)}, (G.map (·.1)).Nodup → x ∈ addG G c e → (x ∈ G ∧ x.1 ≠ c) ∨ (x.1 = c ∧ ((∃ g, (c, g) ∈ G ∧ x.2 = g ++ [e]) ∨ ((∀ y ∈ G, y.1 ≠ c) ∧ x.2 = [e])))
  | [], _, h => by
    simp [addG] at h
    subst h
    exact .inr ⟨rfl, .inr ⟨(fun y hy => by cases hy), rfl⟩⟩
  | (k, g) :: G, nd, h => by
    have nd' := List.nodup_cons.mp (show (k :: G.map (·.1)).Nodup from nd)
    unfold addG at h
    split at h
    · rename_i hk
      rcases List.mem_cons.mp h with z | z
      · subst z hk
        exact .inr ⟨rfl, .inl ⟨g, List.mem_cons_self, rfl⟩⟩
      · refine .inl ⟨List.mem_cons_of_mem _ z, fun y => nd'.1 ?_⟩
        exact List.mem_map.mpr ⟨x, z, y.trans hk.symm⟩
    · rename_i hk
      rcases List.mem_cons.mp h with z | z
      · subst z
        exact .inl ⟨List.mem_cons_self, hk⟩
      · rcases mem_addG (G := G) nd'.2 z with ⟨a, b⟩ | ⟨a, ⟨g', b, b2⟩ | ⟨b, b2⟩⟩
        · exact .inl ⟨List.mem_cons_of_mem _ a, b⟩
        · exact .inr ⟨a, .inl ⟨g', List.mem_cons_of_mem _ b, b2⟩⟩
        · refine .inr ⟨a, .inr ⟨fun y hy => ?_, b2⟩⟩
          rcases List.mem_cons.mp hy with q | q
          · subst q; exact hk
          · exact b y q
structure GrpOk (f : α → Nat) (L : List α) (G : List (Nat × List α)) : Prop where
  nd : (G.map (·.1)).Nodup
  fl : ∀ g ∈ G, g.2 = L.filter (fun e => decide (f e = g.1)) ∧ g.2 ≠ []
  all : ∀ e ∈ L, f e ∈ G.map (·.1)
  sum : (G.map fun g => g.2.length).sum = L.length
theorem GrpOk.step {f : α → Nat} {L : List α} {G : List (Nat × List α)} (h : GrpOk f L G) (e : α) : GrpOk f (L ++ [e]) (addG G (f e) e) where
  nd := by
    rw [keys_addG]
    split
    · exact h.nd
    · rename_i hc
      exact List.nodup_append.mpr ⟨h.nd, by simp, fun a ha b hb => by simp at hb; subst hb; intro z; subst z; exact hc ha⟩
  fl := fun x hx => by
    rw [List.filter_append]
    rcases mem_addG h.nd hx with ⟨a, b⟩ | ⟨a, ⟨g, b, b2⟩ | ⟨b, b2⟩⟩
    · obtain ⟨h1, h2⟩ := h.fl x a
      refine ⟨?_, h2⟩
      have : ¬ f e = x.1 := fun z => b z.symm
      simp [this, ← h1]
    · obtain ⟨h1, h2⟩ := h.fl _ b
      simp only at h1
      refine ⟨?_, by rw [b2]; simp⟩
      rw [b2, a, ← h1]
      simp
    · refine ⟨?_, by rw [b2]; simp⟩
      rw [b2, a]
      have : L.filter (fun e' => decide (f e' = f e)) = [] := by
        rw [List.filter_eq_nil_iff]
        intro e' he' z
        obtain ⟨g, hg, hk⟩ := List.mem_map.mp (h.all e' he')
        exact b g hg (hk.trans (by simpa using z))
      rw [this]
      simp
  all := fun x hx => by
    rw [keys_addG]
    rcases List.mem_append.mp hx with z | z
    · have := h.all x z
      split
      · exact this
      · exact List.mem_append_left _ this
    · simp at z
      subst z
      split
      · assumption
      · simp
  sum := by rw [sum_addG, h.sum]; simp
end
/-! #### the def -/
end Gr
end Lw

set_option maxHeartbeats 4000000
namespace Lw
open PySem Fu
local macro_rules | `(tactic| walk_at "e1") => `(tactic| first
  | with_reducible refine eo_seq ?_ | (with_reducible refine then_nx' ?_; refine ⟨?_, ?_, ?_⟩; rotate_left; · (try dsimp only [List.set, List.length_cons, List.length_nil, List.cons_append, List.nil_append, Nat.zero_add, Nat.reduceAdd]); exact rfl) | with_reducible refine then_rt ?_ | with_reducible refine eo_if ?_ | with_reducible refine eo_ret ?_ | with_reducible refine eo_set ?_ | with_reducible refine eo_asg ?_ | with_reducible refine eo_drop ?_ | with_reducible refine eo_nx ?_ | with_reducible refine eo_par ?_ | with_reducible refine eo_own ?_ | with_reducible refine eo_retN ?_ | with_reducible refine eo_for ?_ | with_reducible refine eo_retO ?_
  | with_reducible refine ev_c ?_ | (with_reducible refine ev_var ?_; refine ⟨_, rfl, ?_⟩) | with_reducible refine ev_bin ?_ | with_reducible refine ev_un ?_ | with_reducible refine ev_nil ?_ | with_reducible refine ev_cons ?_
  | with_reducible refine ev_tup ?_ | with_reducible refine ev_lst ?_ | with_reducible refine ev_call ?_ | with_reducible refine ev_callF ?_ | with_reducible refine ev_isi ?_ | with_reducible refine ev_isi2 ?_ | with_reducible refine ev_andV ?_ | with_reducible refine ev_orV ?_ | with_reducible refine ev_notV ?_
  | with_reducible refine ev_B ?_ | with_reducible refine ev_and ?_ | with_reducible refine ev_or ?_ | with_reducible refine ev_not ?_ | with_reducible refine ev_yes ?_ | with_reducible refine ev_if ?_ | with_reducible refine ev_no ?_ | with_reducible refine ev_so ?_ | with_reducible refine ev_sl ?_ | with_reducible refine ev_items ?_
  | (with_reducible refine ev_ixO ?_; refine ⟨_, _, rfl, rfl, ?_⟩) | (with_reducible refine ev_varO ?_; refine ⟨_, _, rfl, rfl, ?_⟩) | (with_reducible refine ev_lenO ?_; refine ⟨_, _, rfl, rfl, ?_⟩) | (with_reducible refine ev_scrSl ?_; refine ⟨_, rfl, ?_⟩) | (with_reducible refine ev_scrLen ?_; refine ⟨_, rfl, ?_⟩) | (with_reducible refine ev_callScr ?_; refine ⟨_, rfl, ?_⟩) | (with_reducible refine ev_OL ?_; refine ⟨_, _, rfl, rfl, ?_⟩) | with_reducible refine ev_OR ?_ | with_reducible refine ev_rep ?_ | with_reducible refine ev_listRng1 ?_ | with_reducible refine eo_setO ?_
  | with_reducible refine es_name ?_ | with_reducible refine es_tup2 ?_ | with_reducible refine es_tup3 ?_
  | with_reducible refine ed_addI ?_ | with_reducible refine ed_subI ?_ | with_reducible refine ed_cmp ?_ | with_reducible refine ed_eqI ?_ | with_reducible refine ed_neI ?_ | with_reducible refine ed_slT ?_ | with_reducible refine ed_slL ?_ | with_reducible refine ed_lenT ?_ | with_reducible refine ed_lenL ?_ | with_reducible refine ed_lenS ?_ | with_reducible refine ed_inS ?_ | with_reducible refine ed_itT ?_ | with_reducible refine ed_itL ?_ | with_reducible refine ed_tupL ?_ | with_reducible refine ed_tupT ?_ | with_reducible refine ed_listL ?_ | with_reducible refine ed_listT ?_ | with_reducible refine ed_neg ?_ | with_reducible refine ed_max ?_ | with_reducible refine ed_min ?_ | with_reducible refine ed_intB ?_
  | with_reducible refine ev_rng1 ?_ | with_reducible refine ev_rng2 ?_)
local macro_rules | `(tactic| walk_at "sd") => `(tactic| first | rfl | assumption | (simp only [decide_eq_true_eq, decide_eq_false_iff_not, Bool.not_eq_true', Bool.not_eq_false', Bool.and_eq_true, Bool.or_eq_true, List.length_map, List.length_cons, List.length_nil, List.length_append, List.length_range] at *; omega))
local macro_rules | `(tactic| walk_at "e2") => `(tactic| first
  | walk_at "e1" | with_reducible refine ⟨_, rfl, ?_⟩ | with_reducible refine ⟨_, _, rfl, ?_⟩
  | with_reducible refine And.intro (Eq.refl (List.length _)) ?_ | with_reducible refine And.intro (Nat.le_of_ble_eq_true (n := List.length _) rfl) ?_
  | with_reducible refine And.intro (Eq.refl (_ : Sx)) (?_ : Ed _ _)
  | ((with_reducible refine And.intro ?_ (And.intro ?_ (?_ : Ev _ _))); (· rfl); (· rfl))
  | ((with_reducible refine ed_ixT ?_ ?_ ?_); (· decide); (· rfl)) | ((with_reducible refine ed_ixL ?_ ?_ ?_); (· decide); (· rfl)) | ((with_reducible refine ed_at ?_ ?_ ?_); (· decide); (· rfl))
  | ((with_reducible refine ed_modI ?_ ?_); (· first | decide | omega))
  | with_reducible exact gives_nx | ((with_reducible refine gives_rt ?_); (· rfl)) | ((with_reducible refine And.intro ?_ ?_); (· exact rfl); (· with_reducible exact Eq.refl (_ : Sx))))
local macro_rules | `(tactic| walk_at "e") => `(tactic| repeat walk_at "e2")
/-- begin a def's spec -/
local macro_rules | `(tactic| walk_at "i") => `(tactic| simp only [initS, List.map_cons, List.map_nil, List.length_cons, List.length_nil, Nat.reduceAdd, Nat.reduceSub, List.replicate, List.cons_append, List.nil_append])
/-- a known truth decides -/
local macro_rules | `(tactic| walk_at "t") => `(tactic| first | ((with_reducible refine split_t ?_ ?_); (· walk_at "sd")) | ((with_reducible refine split_t' ?_ ?_); (· walk_at "sd")))
local macro_rules | `(tactic| walk_at "f") => `(tactic| first | ((with_reducible refine split_f ?_ ?_); (· walk_at "sd")) | ((with_reducible refine split_f' ?_ ?_); (· walk_at "sd")))
/-- all that is seen in a look -/
local macro_rules | `(tactic| walk_at "v") => `(tactic| (rw [sealAll_mk (by (simp only [List.set_cons_zero, List.set_cons_succ, List.map_cons, List.map_nil, sealS_none, sealS_dat, sealS_scr, sealS_own, List.getElem?_cons_zero, List.getElem?_cons_succ, sealC_lst]; rfl)) (by (simp only [List.set_cons_zero, List.set_cons_succ, List.map_cons, List.map_nil]; rfl))]))
namespace Gr
def mxc (cs : List Nat) : Int := (cs.map fun c => (cs.count c : Int)).foldl max 0
/-- what a place wants -/
def wntC (cs : List Nat) : Int := max (2 * mxc cs - cs.length) ((cs.length : Int) % 2)
def wnt (ls : List Ln) (q : Int) : Int := wntC ((ends ls q).map (cmpy ls))
/-! #### the law's own want -/
end Gr
end Lw

set_option maxHeartbeats 4000000
namespace Lw
open PySem Fu
local macro_rules | `(tactic| walk_at "e1") => `(tactic| first
  | with_reducible refine eo_seq ?_ | (with_reducible refine then_nx' ?_; refine ⟨?_, ?_, ?_⟩; rotate_left; · (try dsimp only [List.set, List.length_cons, List.length_nil, List.cons_append, List.nil_append, Nat.zero_add, Nat.reduceAdd]); exact rfl) | with_reducible refine then_rt ?_ | with_reducible refine eo_if ?_ | with_reducible refine eo_ret ?_ | with_reducible refine eo_set ?_ | with_reducible refine eo_asg ?_ | with_reducible refine eo_drop ?_ | with_reducible refine eo_nx ?_ | with_reducible refine eo_par ?_ | with_reducible refine eo_own ?_ | with_reducible refine eo_retN ?_ | with_reducible refine eo_for ?_ | with_reducible refine eo_retO ?_
  | with_reducible refine ev_c ?_ | (with_reducible refine ev_var ?_; refine ⟨_, rfl, ?_⟩) | with_reducible refine ev_bin ?_ | with_reducible refine ev_un ?_ | with_reducible refine ev_nil ?_ | with_reducible refine ev_cons ?_
  | with_reducible refine ev_tup ?_ | with_reducible refine ev_lst ?_ | with_reducible refine ev_call ?_ | with_reducible refine ev_callF ?_ | with_reducible refine ev_isi ?_ | with_reducible refine ev_isi2 ?_ | with_reducible refine ev_andV ?_ | with_reducible refine ev_orV ?_ | with_reducible refine ev_notV ?_
  | with_reducible refine ev_B ?_ | with_reducible refine ev_and ?_ | with_reducible refine ev_or ?_ | with_reducible refine ev_not ?_ | with_reducible refine ev_yes ?_ | with_reducible refine ev_if ?_ | with_reducible refine ev_no ?_ | with_reducible refine ev_so ?_ | with_reducible refine ev_sl ?_ | with_reducible refine ev_items ?_
  | (with_reducible refine ev_ixO ?_; refine ⟨_, _, rfl, rfl, ?_⟩) | (with_reducible refine ev_varO ?_; refine ⟨_, _, rfl, rfl, ?_⟩) | (with_reducible refine ev_lenO ?_; refine ⟨_, _, rfl, rfl, ?_⟩) | (with_reducible refine ev_scrSl ?_; refine ⟨_, rfl, ?_⟩) | (with_reducible refine ev_scrLen ?_; refine ⟨_, rfl, ?_⟩) | (with_reducible refine ev_callScr ?_; refine ⟨_, rfl, ?_⟩) | (with_reducible refine ev_OL ?_; refine ⟨_, _, rfl, rfl, ?_⟩) | with_reducible refine ev_OR ?_ | with_reducible refine ev_rep ?_ | with_reducible refine ev_listRng1 ?_ | with_reducible refine eo_setO ?_
  | with_reducible refine es_name ?_ | with_reducible refine es_tup2 ?_ | with_reducible refine es_tup3 ?_
  | with_reducible refine ed_addI ?_ | with_reducible refine ed_subI ?_ | with_reducible refine ed_cmp ?_ | with_reducible refine ed_eqI ?_ | with_reducible refine ed_neI ?_ | with_reducible refine ed_slT ?_ | with_reducible refine ed_slL ?_ | with_reducible refine ed_lenT ?_ | with_reducible refine ed_lenL ?_ | with_reducible refine ed_lenS ?_ | with_reducible refine ed_inS ?_ | with_reducible refine ed_itT ?_ | with_reducible refine ed_itL ?_ | with_reducible refine ed_tupL ?_ | with_reducible refine ed_tupT ?_ | with_reducible refine ed_listL ?_ | with_reducible refine ed_listT ?_ | with_reducible refine ed_neg ?_ | with_reducible refine ed_max ?_ | with_reducible refine ed_min ?_ | with_reducible refine ed_intB ?_
  | with_reducible refine ev_rng1 ?_ | with_reducible refine ev_rng2 ?_)
local macro_rules | `(tactic| walk_at "sd") => `(tactic| first | rfl | assumption | (simp only [decide_eq_true_eq, decide_eq_false_iff_not, Bool.not_eq_true', Bool.not_eq_false', Bool.and_eq_true, Bool.or_eq_true, List.length_map, List.length_cons, List.length_nil, List.length_append, List.length_range] at *; omega))
local macro_rules | `(tactic| walk_at "e2") => `(tactic| first
  | walk_at "e1" | with_reducible refine ⟨_, rfl, ?_⟩ | with_reducible refine ⟨_, _, rfl, ?_⟩
  | with_reducible refine And.intro (Eq.refl (List.length _)) ?_ | with_reducible refine And.intro (Nat.le_of_ble_eq_true (n := List.length _) rfl) ?_
  | with_reducible refine And.intro (Eq.refl (_ : Sx)) (?_ : Ed _ _)
  | ((with_reducible refine And.intro ?_ (And.intro ?_ (?_ : Ev _ _))); (· rfl); (· rfl))
  | ((with_reducible refine ed_ixT ?_ ?_ ?_); (· decide); (· rfl)) | ((with_reducible refine ed_ixL ?_ ?_ ?_); (· decide); (· rfl)) | ((with_reducible refine ed_at ?_ ?_ ?_); (· decide); (· rfl))
  | ((with_reducible refine ed_modI ?_ ?_); (· first | decide | omega))
  | with_reducible exact gives_nx | ((with_reducible refine gives_rt ?_); (· rfl)) | ((with_reducible refine And.intro ?_ ?_); (· exact rfl); (· with_reducible exact Eq.refl (_ : Sx))))
local macro_rules | `(tactic| walk_at "e") => `(tactic| repeat walk_at "e2")
/-- begin a def's spec -/
local macro_rules | `(tactic| walk_at "i") => `(tactic| simp only [initS, List.map_cons, List.map_nil, List.length_cons, List.length_nil, Nat.reduceAdd, Nat.reduceSub, List.replicate, List.cons_append, List.nil_append])
/-- a known truth decides -/
local macro_rules | `(tactic| walk_at "t") => `(tactic| first | ((with_reducible refine split_t ?_ ?_); (· walk_at "sd")) | ((with_reducible refine split_t' ?_ ?_); (· walk_at "sd")))
local macro_rules | `(tactic| walk_at "f") => `(tactic| first | ((with_reducible refine split_f ?_ ?_); (· walk_at "sd")) | ((with_reducible refine split_f' ?_ ?_); (· walk_at "sd")))
/-- all that is seen in a look -/
local macro_rules | `(tactic| walk_at "v") => `(tactic| (rw [sealAll_mk (by (simp only [List.set_cons_zero, List.set_cons_succ, List.map_cons, List.map_nil, sealS_none, sealS_dat, sealS_scr, sealS_own, List.getElem?_cons_zero, List.getElem?_cons_succ, sealC_lst]; rfl)) (by (simp only [List.set_cons_zero, List.set_cons_succ, List.map_cons, List.map_nil]; rfl))]))
namespace Gr
/-! #### the greatest count -/
end Gr
end Lw

set_option maxHeartbeats 4000000
namespace Lw
open PySem Fu
local macro_rules | `(tactic| walk_at "e1") => `(tactic| first
  | with_reducible refine eo_seq ?_ | (with_reducible refine then_nx' ?_; refine ⟨?_, ?_, ?_⟩; rotate_left; · (try dsimp only [List.set, List.length_cons, List.length_nil, List.cons_append, List.nil_append, Nat.zero_add, Nat.reduceAdd]); exact rfl) | with_reducible refine then_rt ?_ | with_reducible refine eo_if ?_ | with_reducible refine eo_ret ?_ | with_reducible refine eo_set ?_ | with_reducible refine eo_asg ?_ | with_reducible refine eo_drop ?_ | with_reducible refine eo_nx ?_ | with_reducible refine eo_par ?_ | with_reducible refine eo_own ?_ | with_reducible refine eo_retN ?_ | with_reducible refine eo_for ?_ | with_reducible refine eo_retO ?_
  | with_reducible refine ev_c ?_ | (with_reducible refine ev_var ?_; refine ⟨_, rfl, ?_⟩) | with_reducible refine ev_bin ?_ | with_reducible refine ev_un ?_ | with_reducible refine ev_nil ?_ | with_reducible refine ev_cons ?_
  | with_reducible refine ev_tup ?_ | with_reducible refine ev_lst ?_ | with_reducible refine ev_call ?_ | with_reducible refine ev_callF ?_ | with_reducible refine ev_isi ?_ | with_reducible refine ev_isi2 ?_ | with_reducible refine ev_andV ?_ | with_reducible refine ev_orV ?_ | with_reducible refine ev_notV ?_
  | with_reducible refine ev_B ?_ | with_reducible refine ev_and ?_ | with_reducible refine ev_or ?_ | with_reducible refine ev_not ?_ | with_reducible refine ev_yes ?_ | with_reducible refine ev_if ?_ | with_reducible refine ev_no ?_ | with_reducible refine ev_so ?_ | with_reducible refine ev_sl ?_ | with_reducible refine ev_items ?_
  | (with_reducible refine ev_ixO ?_; refine ⟨_, _, rfl, rfl, ?_⟩) | (with_reducible refine ev_varO ?_; refine ⟨_, _, rfl, rfl, ?_⟩) | (with_reducible refine ev_lenO ?_; refine ⟨_, _, rfl, rfl, ?_⟩) | (with_reducible refine ev_scrSl ?_; refine ⟨_, rfl, ?_⟩) | (with_reducible refine ev_scrLen ?_; refine ⟨_, rfl, ?_⟩) | (with_reducible refine ev_callScr ?_; refine ⟨_, rfl, ?_⟩) | (with_reducible refine ev_OL ?_; refine ⟨_, _, rfl, rfl, ?_⟩) | with_reducible refine ev_OR ?_ | with_reducible refine ev_rep ?_ | with_reducible refine ev_listRng1 ?_ | with_reducible refine eo_setO ?_
  | with_reducible refine es_name ?_ | with_reducible refine es_tup2 ?_ | with_reducible refine es_tup3 ?_
  | with_reducible refine ed_addI ?_ | with_reducible refine ed_subI ?_ | with_reducible refine ed_cmp ?_ | with_reducible refine ed_eqI ?_ | with_reducible refine ed_neI ?_ | with_reducible refine ed_slT ?_ | with_reducible refine ed_slL ?_ | with_reducible refine ed_lenT ?_ | with_reducible refine ed_lenL ?_ | with_reducible refine ed_lenS ?_ | with_reducible refine ed_inS ?_ | with_reducible refine ed_itT ?_ | with_reducible refine ed_itL ?_ | with_reducible refine ed_tupL ?_ | with_reducible refine ed_tupT ?_ | with_reducible refine ed_listL ?_ | with_reducible refine ed_listT ?_ | with_reducible refine ed_neg ?_ | with_reducible refine ed_max ?_ | with_reducible refine ed_min ?_ | with_reducible refine ed_intB ?_
  | with_reducible refine ev_rng1 ?_ | with_reducible refine ev_rng2 ?_)
local macro_rules | `(tactic| walk_at "sd") => `(tactic| first | rfl | assumption | (simp only [decide_eq_true_eq, decide_eq_false_iff_not, Bool.not_eq_true', Bool.not_eq_false', Bool.and_eq_true, Bool.or_eq_true, List.length_map, List.length_cons, List.length_nil, List.length_append, List.length_range] at *; omega))
local macro_rules | `(tactic| walk_at "e2") => `(tactic| first
  | walk_at "e1" | with_reducible refine ⟨_, rfl, ?_⟩ | with_reducible refine ⟨_, _, rfl, ?_⟩
  | with_reducible refine And.intro (Eq.refl (List.length _)) ?_ | with_reducible refine And.intro (Nat.le_of_ble_eq_true (n := List.length _) rfl) ?_
  | with_reducible refine And.intro (Eq.refl (_ : Sx)) (?_ : Ed _ _)
  | ((with_reducible refine And.intro ?_ (And.intro ?_ (?_ : Ev _ _))); (· rfl); (· rfl))
  | ((with_reducible refine ed_ixT ?_ ?_ ?_); (· decide); (· rfl)) | ((with_reducible refine ed_ixL ?_ ?_ ?_); (· decide); (· rfl)) | ((with_reducible refine ed_at ?_ ?_ ?_); (· decide); (· rfl))
  | ((with_reducible refine ed_modI ?_ ?_); (· first | decide | omega))
  | with_reducible exact gives_nx | ((with_reducible refine gives_rt ?_); (· rfl)) | ((with_reducible refine And.intro ?_ ?_); (· exact rfl); (· with_reducible exact Eq.refl (_ : Sx))))
local macro_rules | `(tactic| walk_at "e") => `(tactic| repeat walk_at "e2")
/-- begin a def's spec -/
local macro_rules | `(tactic| walk_at "i") => `(tactic| simp only [initS, List.map_cons, List.map_nil, List.length_cons, List.length_nil, Nat.reduceAdd, Nat.reduceSub, List.replicate, List.cons_append, List.nil_append])
/-- a known truth decides -/
local macro_rules | `(tactic| walk_at "t") => `(tactic| first | ((with_reducible refine split_t ?_ ?_); (· walk_at "sd")) | ((with_reducible refine split_t' ?_ ?_); (· walk_at "sd")))
local macro_rules | `(tactic| walk_at "f") => `(tactic| first | ((with_reducible refine split_f ?_ ?_); (· walk_at "sd")) | ((with_reducible refine split_f' ?_ ?_); (· walk_at "sd")))
/-- all that is seen in a look -/
local macro_rules | `(tactic| walk_at "v") => `(tactic| (rw [sealAll_mk (by (simp only [List.set_cons_zero, List.set_cons_succ, List.map_cons, List.map_nil, sealS_none, sealS_dat, sealS_scr, sealS_own, List.getElem?_cons_zero, List.getElem?_cons_succ, sealC_lst]; rfl)) (by (simp only [List.set_cons_zero, List.set_cons_succ, List.map_cons, List.map_nil]; rfl))]))
namespace Gr
/-! #### all places together -/
end Gr
end Lw

set_option maxHeartbeats 4000000
namespace Lw
open PySem Fu
local macro_rules | `(tactic| walk_at "e1") => `(tactic| first
  | with_reducible refine eo_seq ?_ | (with_reducible refine then_nx' ?_; refine ⟨?_, ?_, ?_⟩; rotate_left; · (try dsimp only [List.set, List.length_cons, List.length_nil, List.cons_append, List.nil_append, Nat.zero_add, Nat.reduceAdd]); exact rfl) | with_reducible refine then_rt ?_ | with_reducible refine eo_if ?_ | with_reducible refine eo_ret ?_ | with_reducible refine eo_set ?_ | with_reducible refine eo_asg ?_ | with_reducible refine eo_drop ?_ | with_reducible refine eo_nx ?_ | with_reducible refine eo_par ?_ | with_reducible refine eo_own ?_ | with_reducible refine eo_retN ?_ | with_reducible refine eo_for ?_ | with_reducible refine eo_retO ?_
  | with_reducible refine ev_c ?_ | (with_reducible refine ev_var ?_; refine ⟨_, rfl, ?_⟩) | with_reducible refine ev_bin ?_ | with_reducible refine ev_un ?_ | with_reducible refine ev_nil ?_ | with_reducible refine ev_cons ?_
  | with_reducible refine ev_tup ?_ | with_reducible refine ev_lst ?_ | with_reducible refine ev_call ?_ | with_reducible refine ev_callF ?_ | with_reducible refine ev_isi ?_ | with_reducible refine ev_isi2 ?_ | with_reducible refine ev_andV ?_ | with_reducible refine ev_orV ?_ | with_reducible refine ev_notV ?_
  | with_reducible refine ev_B ?_ | with_reducible refine ev_and ?_ | with_reducible refine ev_or ?_ | with_reducible refine ev_not ?_ | with_reducible refine ev_yes ?_ | with_reducible refine ev_if ?_ | with_reducible refine ev_no ?_ | with_reducible refine ev_so ?_ | with_reducible refine ev_sl ?_ | with_reducible refine ev_items ?_
  | (with_reducible refine ev_ixO ?_; refine ⟨_, _, rfl, rfl, ?_⟩) | (with_reducible refine ev_varO ?_; refine ⟨_, _, rfl, rfl, ?_⟩) | (with_reducible refine ev_lenO ?_; refine ⟨_, _, rfl, rfl, ?_⟩) | (with_reducible refine ev_scrSl ?_; refine ⟨_, rfl, ?_⟩) | (with_reducible refine ev_scrLen ?_; refine ⟨_, rfl, ?_⟩) | (with_reducible refine ev_callScr ?_; refine ⟨_, rfl, ?_⟩) | (with_reducible refine ev_OL ?_; refine ⟨_, _, rfl, rfl, ?_⟩) | with_reducible refine ev_OR ?_ | with_reducible refine ev_rep ?_ | with_reducible refine ev_listRng1 ?_ | with_reducible refine eo_setO ?_
  | with_reducible refine es_name ?_ | with_reducible refine es_tup2 ?_ | with_reducible refine es_tup3 ?_
  | with_reducible refine ed_addI ?_ | with_reducible refine ed_subI ?_ | with_reducible refine ed_cmp ?_ | with_reducible refine ed_eqI ?_ | with_reducible refine ed_neI ?_ | with_reducible refine ed_slT ?_ | with_reducible refine ed_slL ?_ | with_reducible refine ed_lenT ?_ | with_reducible refine ed_lenL ?_ | with_reducible refine ed_lenS ?_ | with_reducible refine ed_inS ?_ | with_reducible refine ed_itT ?_ | with_reducible refine ed_itL ?_ | with_reducible refine ed_tupL ?_ | with_reducible refine ed_tupT ?_ | with_reducible refine ed_listL ?_ | with_reducible refine ed_listT ?_ | with_reducible refine ed_neg ?_ | with_reducible refine ed_max ?_ | with_reducible refine ed_min ?_ | with_reducible refine ed_intB ?_
  | with_reducible refine ev_rng1 ?_ | with_reducible refine ev_rng2 ?_)
local macro_rules | `(tactic| walk_at "sd") => `(tactic| first | rfl | assumption | (simp only [decide_eq_true_eq, decide_eq_false_iff_not, Bool.not_eq_true', Bool.not_eq_false', Bool.and_eq_true, Bool.or_eq_true, List.length_map, List.length_cons, List.length_nil, List.length_append, List.length_range] at *; omega))
local macro_rules | `(tactic| walk_at "e2") => `(tactic| first
  | walk_at "e1" | with_reducible refine ⟨_, rfl, ?_⟩ | with_reducible refine ⟨_, _, rfl, ?_⟩
  | with_reducible refine And.intro (Eq.refl (List.length _)) ?_ | with_reducible refine And.intro (Nat.le_of_ble_eq_true (n := List.length _) rfl) ?_
  | with_reducible refine And.intro (Eq.refl (_ : Sx)) (?_ : Ed _ _)
  | ((with_reducible refine And.intro ?_ (And.intro ?_ (?_ : Ev _ _))); (· rfl); (· rfl))
  | ((with_reducible refine ed_ixT ?_ ?_ ?_); (· decide); (· rfl)) | ((with_reducible refine ed_ixL ?_ ?_ ?_); (· decide); (· rfl)) | ((with_reducible refine ed_at ?_ ?_ ?_); (· decide); (· rfl))
  | ((with_reducible refine ed_modI ?_ ?_); (· first | decide | omega))
  | with_reducible exact gives_nx | ((with_reducible refine gives_rt ?_); (· rfl)) | ((with_reducible refine And.intro ?_ ?_); (· exact rfl); (· with_reducible exact Eq.refl (_ : Sx))))
local macro_rules | `(tactic| walk_at "e") => `(tactic| repeat walk_at "e2")
/-- begin a def's spec -/
local macro_rules | `(tactic| walk_at "i") => `(tactic| simp only [initS, List.map_cons, List.map_nil, List.length_cons, List.length_nil, Nat.reduceAdd, Nat.reduceSub, List.replicate, List.cons_append, List.nil_append])
/-- a known truth decides -/
local macro_rules | `(tactic| walk_at "t") => `(tactic| first | ((with_reducible refine split_t ?_ ?_); (· walk_at "sd")) | ((with_reducible refine split_t' ?_ ?_); (· walk_at "sd")))
local macro_rules | `(tactic| walk_at "f") => `(tactic| first | ((with_reducible refine split_f ?_ ?_); (· walk_at "sd")) | ((with_reducible refine split_f' ?_ ?_); (· walk_at "sd")))
/-- all that is seen in a look -/
local macro_rules | `(tactic| walk_at "v") => `(tactic| (rw [sealAll_mk (by (simp only [List.set_cons_zero, List.set_cons_succ, List.map_cons, List.map_nil, sealS_none, sealS_dat, sealS_scr, sealS_own, List.getElem?_cons_zero, List.getElem?_cons_succ, sealC_lst]; rfl)) (by (simp only [List.set_cons_zero, List.set_cons_succ, List.map_cons, List.map_nil]; rfl))]))
namespace Pt
/-! ### marks carried along lines -/
def mstep (f : Int → Int) (l : Ln) : Int → Int := fun q => if q = l.1 ∨ q = l.2.1 then min (f l.1) (f l.2.1) else f q
def mround (ls : List Ln) (f : Int → Int) : Int → Int := ls.foldl mstep f
def mrounds (ls : List Ln) : Nat → Int → Int
  | 0 => fun q => q
  | t + 1 => mround ls (mrounds ls t)
/-- the least place that hangs together with a place -/
def cm (p : Int) (ls : List Ln) : Int → Int := mrounds ls p.toNat
theorem mstep_le (f : Int → Int) (l : Ln) (q : Int) : mstep f l q ≤ f q := by
  unfold mstep
  split
  · rename_i h
    rcases h with h | h <;> subst h <;> omega
  · exact Int.le_refl _
theorem mround_le : ∀ (ls : List Ln) (f : Int → Int) (q : Int), mround ls f q ≤ f q
  | [], f, q => Int.le_refl _
  | l :: ls, f, q => Int.le_trans (mround_le ls (mstep f l) q) (mstep_le f l q)
theorem mround_nn {ls : List Ln} (h : ∀ l ∈ ls, 0 ≤ l.1 ∧ 0 ≤ l.2.1) {f : Int → Int} (hf : ∀ q, 0 ≤ q → 0 ≤ f q) : ∀ q, 0 ≤ q → 0 ≤ mround ls f q := by
  induction ls generalizing f with
  | nil => exact hf
  | cons l ls ih =>
    refine ih (fun k hk => h k (List.mem_cons_of_mem _ hk)) (f := mstep f l) fun q hq => ?_
    obtain ⟨a, b⟩ := h l List.mem_cons_self
    unfold mstep
    have := hf _ a
    have := hf _ b
    split
    · omega
    · exact hf q hq
theorem mrounds_nn {ls : List Ln} (h : ∀ l ∈ ls, 0 ≤ l.1 ∧ 0 ≤ l.2.1) : ∀ (t : Nat) (q : Int), 0 ≤ q → 0 ≤ mrounds ls t q
  | 0, _, hq => hq
  | t + 1, q, hq => mround_nn h (mrounds_nn h t) q hq
def Cl (ls : List Ln) (Q : Int → Prop) : Prop := ∀ l ∈ ls, Q l.1 ↔ Q l.2.1
/-- marks stay within what is closed -/
theorem mround_in {ls : List Ln} {Q : Int → Prop} (h : Cl ls Q) {f : Int → Int} (hf : ∀ q, Q (f q) ↔ Q q) : ∀ q, Q (mround ls f q) ↔ Q q := by
  induction ls generalizing f with
  | nil => exact hf
  | cons l ls ih =>
    refine ih (fun k hk => h k (List.mem_cons_of_mem _ hk)) (f := mstep f l) fun q => ?_
    have hl := h l List.mem_cons_self
    have h1 := hf l.1
    have h2 := hf l.2.1
    unfold mstep
    split
    · rename_i hq
      have e : Q (min (f l.1) (f l.2.1)) ↔ Q l.1 := by
        rcases Int.le_total (f l.1) (f l.2.1) with z | z
        · rw [Int.min_eq_left z]; exact h1
        · rw [Int.min_eq_right z]; exact h2.trans hl.symm
      rcases hq with hq | hq
      · rw [hq]; exact e
      · rw [hq]; exact e.trans hl
    · exact hf q
theorem mrounds_in {ls : List Ln} {Q : Int → Prop} (h : Cl ls Q) : ∀ (t : Nat) (q : Int), Q (mrounds ls t q) ↔ Q q
  | 0, _ => Iff.rfl
  | t + 1, q => mround_in h (mrounds_in h t) q
theorem cm_in {p : Int} {ls : List Ln} {Q : Int → Prop} (h : Cl ls Q) (q : Int) : Q (cm p ls q) ↔ Q q := mrounds_in h _ q
theorem cm_sep {p : Int} {ls : List Ln} {Q : Int → Prop} (h : Cl ls Q) {a b : Int} (e : cm p ls a = cm p ls b) : Q a ↔ Q b :=
  (cm_in (p := p) h a).symm.trans (e ▸ cm_in (p := p) h b)
/-- where the marks under m are closed, nothing changes there -/
theorem mround_cl {ls : List Ln} {f g : Int → Int} {m : Int} (h : Cl ls fun q => f q ≤ m) (hg : ∀ q, g q ≤ m ↔ f q ≤ m) : ∀ q, mround ls g q ≤ m ↔ f q ≤ m := by
  induction ls generalizing g with
  | nil => exact hg
  | cons l ls ih =>
    refine ih (fun k hk => h k (List.mem_cons_of_mem _ hk)) (g := mstep g l) fun q => ?_
    have hl := h l List.mem_cons_self
    simp only at hl
    have h1 := hg l.1
    have h2 := hg l.2.1
    unfold mstep
    split
    · rename_i hq
      have e : min (g l.1) (g l.2.1) ≤ m ↔ f l.1 ≤ m := by
        rcases Int.le_total (g l.1) (g l.2.1) with z | z
        · rw [Int.min_eq_left z]; exact h1
        · rw [Int.min_eq_right z]; exact h2.trans hl.symm
      rcases hq with hq | hq
      · rw [hq]; exact e
      · rw [hq]; exact e.trans hl
    · exact hg q
/-- where they are not, one place more comes in -/
theorem mround_op {ls : List Ln} {f : Int → Int} {m : Int} (h : ¬ Cl ls fun q => f q ≤ m) : ∃ l ∈ ls, ∃ q, (q = l.1 ∨ q = l.2.1) ∧ mround ls f q ≤ m ∧ ¬ f q ≤ m := by
  have h2 : ∃ l ∈ ls, ¬ (f l.1 ≤ m ↔ f l.2.1 ≤ m) := by
    refine Classical.byContradiction fun z => h fun l hl => Classical.byContradiction fun y => z ⟨l, hl, y⟩
  obtain ⟨l, hl, hn⟩ := h2
  obtain ⟨xs, ys, rfl⟩ := List.append_of_mem hl
  have key : ∀ q, (q = l.1 ∨ q = l.2.1) → (f l.1 ≤ m ∨ f l.2.1 ≤ m) → mround (xs ++ l :: ys) f q ≤ m := by
    intro q hq ho
    have e : mround (xs ++ l :: ys) f q = mround ys (mstep (mround xs f) l) q := by
      unfold mround
      rw [List.foldl_append, List.foldl_cons]
    rw [e]
    refine Int.le_trans (mround_le ys _ q) ?_
    unfold mstep
    rw [if_pos hq]
    have a := mround_le xs f l.1
    have b := mround_le xs f l.2.1
    omega
  by_cases h1 : f l.1 ≤ m
  · refine ⟨l, hl, l.2.1, .inr rfl, key _ (.inr rfl) (.inl h1), fun z => hn ⟨fun _ => z, fun _ => h1⟩⟩
  · by_cases h2 : f l.2.1 ≤ m
    · exact ⟨l, hl, l.1, .inl rfl, key _ (.inl rfl) (.inr h2), h1⟩
    · exact absurd ⟨fun z => absurd z h1, fun z => absurd z h2⟩ hn
def cnt (n : Nat) (f : Int → Int) (m : Int) : Nat := (List.range n).countP fun i : Nat => decide (f i ≤ m)
theorem countP_lt {α : Type} {P Q : α → Bool} : ∀ {l : List α} {x : α}, (∀ y ∈ l, P y = true → Q y = true) → x ∈ l → P x = false → Q x = true → l.countP P + 1 ≤ l.countP Q
  | [], x, _, hx, _, _ => nomatch hx
  | y :: l, x, h, hx, h1, h2 => by
    rcases List.mem_cons.mp hx with z | z
    · subst z
      rw [List.countP_cons_of_neg (by rw [h1]; decide), List.countP_cons_of_pos h2]
      have := List.countP_mono_left (l := l) (p := P) (q := Q) fun y hy => h y (List.mem_cons_of_mem _ hy)
      omega
    · have := countP_lt (fun y hy => h y (List.mem_cons_of_mem _ hy)) z h1 h2
      rw [List.countP_cons, List.countP_cons]
      have hy := h y List.mem_cons_self
      cases e1 : P y
      · simp; omega
      · rw [hy e1]; simp; omega
theorem cl_or {n : Nat} {ls : List Ln} (h : ∀ l ∈ ls, 0 ≤ l.1 ∧ l.1 < n ∧ 0 ≤ l.2.1 ∧ l.2.1 < n) (m : Int) : ∀ t : Nat, (Cl ls fun q => mrounds ls t q ≤ m) ∨ t + cnt n (mrounds ls 0) m ≤ cnt n (mrounds ls t) m
  | 0 => .inr (by omega)
  | t + 1 => by
    by_cases hc : Cl ls fun q => mrounds ls t q ≤ m
    · refine .inl ?_
      have := mround_cl hc (g := mrounds ls t) fun q => Iff.rfl
      intro l hl
      simp only [mrounds]
      exact (this l.1).trans ((hc l hl).trans (this l.2.1).symm)
    · rcases cl_or h m t with z | z
      · exact absurd z hc
      · refine .inr ?_
        obtain ⟨l, hl, q, hq, q1, q2⟩ := mround_op hc
        obtain ⟨a0, a1, b0, b1⟩ := h l hl
        have hq' : 0 ≤ q ∧ q < n := by rcases hq with hq | hq <;> subst hq <;> exact ⟨by assumption, by assumption⟩
        have e : ((q.toNat : Nat) : Int) = q := by omega
        have := countP_lt (l := List.range n) (P := fun i : Nat => decide (mrounds ls t i ≤ m)) (Q := fun i : Nat => decide (mrounds ls (t + 1) i ≤ m)) (x := q.toNat)
          (fun y _ hy => decide_eq_true (Int.le_trans (mround_le ls _ _) (of_decide_eq_true hy))) (List.mem_range.mpr (by omega)) (by rw [e]; exact decide_eq_false q2) (by rw [e]; exact decide_eq_true q1)
        unfold cnt at z ⊢
        omega
/-- marks are alike along lines in the end -/
theorem cm_line {p : Int} {ls : List Ln} (h : ∀ l ∈ ls, 0 ≤ l.1 ∧ l.1 < p ∧ 0 ≤ l.2.1 ∧ l.2.1 < p) {l : Ln} (hl : l ∈ ls) : cm p ls l.1 = cm p ls l.2.1 := by
  have hp : ((p.toNat : Nat) : Int) = p := by have := h l hl; omega
  have h' : ∀ l ∈ ls, 0 ≤ l.1 ∧ l.1 < (p.toNat : Nat) ∧ 0 ≤ l.2.1 ∧ l.2.1 < (p.toNat : Nat) := by rw [hp]; exact h
  have hnn : ∀ l ∈ ls, 0 ≤ l.1 ∧ 0 ≤ l.2.1 := fun l hl => ⟨(h l hl).1, (h l hl).2.2.1⟩
  have key : ∀ m : Int, 0 ≤ m → Cl ls fun q => cm p ls q ≤ m := by
    intro m hm
    rcases cl_or h' m p.toNat with z | z
    · exact z
    · have h1 : cnt p.toNat (mrounds ls p.toNat) m ≤ p.toNat := by
        unfold cnt
        have := List.countP_le_length (p := fun i : Nat => decide (mrounds ls p.toNat i ≤ m)) (l := List.range p.toNat)
        rwa [List.length_range] at this
      have h2 : 0 < cnt p.toNat (mrounds ls 0) m := by
        unfold cnt
        refine List.countP_pos_iff.mpr ⟨0, List.mem_range.mpr ?_, decide_eq_true hm⟩
        have := h l hl
        omega
      omega
  obtain ⟨a0, a1, b0, b1⟩ := h l hl
  have n1 := mrounds_nn hnn p.toNat _ a0
  have n2 := mrounds_nn hnn p.toNat _ b0
  exact Int.le_antisymm ((key _ n2 l hl).mpr (Int.le_refl _)) ((key _ n1 l hl).mp (Int.le_refl _))
/-! ### parts, line by line -/
def lat (ls : List Ln) (i : Nat) : Ln := ls.getD i (0, 0, 0)
theorem lat_of {ls : List Ln} {i : Nat} {l : Ln} (h : ls[i]? = some l) : lat ls i = l := by unfold lat; rw [List.getD_eq_getElem?_getD, h]; rfl
theorem lat_at {ls : List Ln} {i : Nat} (h : i < ls.length) : ls[i]? = some (lat ls i) := by rw [lat_of (List.getElem?_eq_getElem h)]; exact List.getElem?_eq_getElem h
theorem lat_mem {ls : List Ln} {i : Nat} (h : i < ls.length) : lat ls i ∈ ls := List.mem_of_getElem? (lat_at h)
def met (ls : List Ln) (part : List Nat) : List Int := part.flatMap fun i => [(lat ls i).1, (lat ls i).2.1]
def hang (ls : List Ln) (part : List Nat) (i : Nat) : Bool := decide ((lat ls i).1 ∈ met ls part ∨ (lat ls i).2.1 ∈ met ls part)
def clr (p : Int) (ls : List Ln) (i : Nat) : Int := cm p ls (lat ls i).1
theorem mem_met {ls : List Ln} {part : List Nat} {q : Int} : q ∈ met ls part ↔ ∃ i ∈ part, q = (lat ls i).1 ∨ q = (lat ls i).2.1 := by
  unfold met
  rw [List.mem_flatMap]
  simp only [List.mem_cons, List.not_mem_nil, or_false]
theorem met_clr {p : Int} {ls : List Ln} (h : ∀ l ∈ ls, 0 ≤ l.1 ∧ l.1 < p ∧ 0 ≤ l.2.1 ∧ l.2.1 < p) {i : Nat} (hi : i < ls.length) {q : Int} (hq : q = (lat ls i).1 ∨ q = (lat ls i).2.1) : cm p ls q = clr p ls i := by
  rcases hq with hq | hq
  · rw [hq]; rfl
  · rw [hq]; exact (cm_line h (lat_mem hi)).symm
structure Inn (p : Int) (ls : List Ln) (L : List Nat) (s : Nat) (part left more : List Nat) : Prop where
  left_eq : left = L.filter fun i => decide (i ∉ part)
  sub : ∀ i ∈ part, i ∈ L ∧ clr p ls i = clr p ls s
  nd : part.Nodup
  more_eq : (part = [] ∧ more = [s]) ∨ (s ∈ part ∧ more = left.filter (hang ls part))
section
variable {p : Int} {ls : List Ln} {L : List Nat} {s : Nat} {part left more : List Nat}
theorem Inn.more_sub (I : Inn p ls L s part left more) (hs : s ∈ L) : ∀ i ∈ more, i ∈ left := by
  intro i hi
  rcases I.more_eq with ⟨h1, h2⟩ | ⟨_, h2⟩
  · rw [h2] at hi
    rw [List.mem_singleton.mp hi, I.left_eq, h1, List.mem_filter]
    exact ⟨hs, by simp⟩
  · rw [h2] at hi
    exact (List.mem_filter.mp hi).1
theorem Inn.more_nd (I : Inn p ls L s part left more) (hL : L.Nodup) : more.Nodup := by
  rcases I.more_eq with ⟨_, h2⟩ | ⟨_, h2⟩
  · rw [h2]; exact List.nodup_cons.mpr ⟨List.not_mem_nil, List.nodup_nil⟩
  · rw [h2, I.left_eq]; exact (hL.filter _).filter _
theorem Inn.more_clr (h : ∀ l ∈ ls, 0 ≤ l.1 ∧ l.1 < p ∧ 0 ≤ l.2.1 ∧ l.2.1 < p) (hn : ∀ i ∈ L, i < ls.length) (I : Inn p ls L s part left more) : ∀ i ∈ more, clr p ls i = clr p ls s := by
  intro i hi
  rcases I.more_eq with ⟨_, h2⟩ | ⟨_, h2⟩
  · rw [h2] at hi
    rw [List.mem_singleton.mp hi]
  · rw [h2, I.left_eq] at hi
    obtain ⟨h3, h4⟩ := List.mem_filter.mp hi
    have hiL := hn i (List.mem_filter.mp h3).1
    have key : ∀ q, (q = (lat ls i).1 ∨ q = (lat ls i).2.1) → q ∈ met ls part → clr p ls i = clr p ls s := by
      intro q hq hm
      obtain ⟨j, hj, hqj⟩ := mem_met.mp hm
      obtain ⟨j1, j2⟩ := I.sub j hj
      rw [← met_clr h hiL hq, met_clr h (hn j j1) hqj, j2]
    rcases of_decide_eq_true h4 with z | z
    · exact key _ (.inl rfl) z
    · exact key _ (.inr rfl) z
theorem Inn.step (h : ∀ l ∈ ls, 0 ≤ l.1 ∧ l.1 < p ∧ 0 ≤ l.2.1 ∧ l.2.1 < p) (hn : ∀ i ∈ L, i < ls.length) (hL : L.Nodup) (hs : s ∈ L) (I : Inn p ls L s part left more) (hm : more ≠ []) :
    Inn p ls L s (part ++ more) (left.filter fun i => decide (i ∉ more)) ((left.filter fun i => decide (i ∉ more)).filter (hang ls (part ++ more))) ∧ (left.filter fun i => decide (i ∉ more)).length < left.length := by
  have hsub := I.more_sub hs
  refine ⟨⟨?_, ?_, ?_, .inr ⟨?_, rfl⟩⟩, ?_⟩
  · rw [I.left_eq, List.filter_filter]
    refine List.filter_congr fun i _ => ?_
    by_cases a : i ∈ part <;> by_cases b : i ∈ more <;> simp [a, b]
  · intro i hi
    rcases List.mem_append.mp hi with z | z
    · exact I.sub i z
    · have := hsub i z
      rw [I.left_eq] at this
      exact ⟨(List.mem_filter.mp this).1, I.more_clr h hn i z⟩
  · refine List.nodup_append.mpr ⟨I.nd, I.more_nd hL, fun a ha b hb e => ?_⟩
    subst e
    have := hsub a hb
    rw [I.left_eq] at this
    exact of_decide_eq_true (List.mem_filter.mp this).2 ha
  · rcases I.more_eq with ⟨_, h2⟩ | ⟨h1, _⟩
    · rw [h2]; exact List.mem_append.mpr (.inr (List.mem_singleton.mpr rfl))
    · exact List.mem_append.mpr (.inl h1)
  · obtain ⟨x, hx⟩ := List.exists_mem_of_ne_nil _ hm
    have h1 := hsub x hx
    refine Nat.lt_of_le_of_ne (List.length_filter_le _ _) fun e => ?_
    have := List.length_filter_eq_length_iff.mp e x h1
    exact of_decide_eq_true this hx
theorem Inn.start (hs : s ∈ L) : Inn p ls L s [] L [s] := ⟨by rw [List.filter_eq_self.mpr (fun a _ => by simp)], (fun i hi => nomatch hi), List.nodup_nil, .inl ⟨rfl, rfl⟩⟩
/-- what the inner loop leaves -/
theorem Inn.done (h : ∀ l ∈ ls, 0 ≤ l.1 ∧ l.1 < p ∧ 0 ≤ l.2.1 ∧ l.2.1 < p) (hn : ∀ i ∈ L, i < ls.length) (hc : ∀ i, i < ls.length → clr p ls i = clr p ls s → i ∈ L) (hs : s ∈ L) (I : Inn p ls L s part left []) :
    (∀ i, i ∈ part ↔ i < ls.length ∧ clr p ls i = clr p ls s) ∧ left = L.filter fun i => decide (clr p ls i ≠ clr p ls s) := by
  obtain ⟨hsp, hm⟩ : s ∈ part ∧ ([] : List Nat) = left.filter (hang ls part) := by
    rcases I.more_eq with ⟨_, h2⟩ | h2
    · cases h2
    · exact h2
  have key : ∀ i, i < ls.length → (∃ q, (q = (lat ls i).1 ∨ q = (lat ls i).2.1) ∧ q ∈ met ls part) → i ∈ part := by
    rintro i hi ⟨q, hq, hqm⟩
    obtain ⟨j, hj, hqj⟩ := mem_met.mp hqm
    obtain ⟨j1, j2⟩ := I.sub j hj
    have hiL : i ∈ L := hc i hi (by rw [← met_clr h hi hq, met_clr h (hn j j1) hqj, j2])
    refine Classical.byContradiction fun z => ?_
    have : i ∈ left.filter (hang ls part) := by
      rw [I.left_eq]
      refine List.mem_filter.mpr ⟨List.mem_filter.mpr ⟨hiL, decide_eq_true z⟩, decide_eq_true ?_⟩
      rcases hq with hq | hq
      · exact .inl (hq ▸ hqm)
      · exact .inr (hq ▸ hqm)
    rw [← hm] at this
    cases this
  have cl : Cl ls fun q => q ∈ met ls part := by
    intro l hl
    obtain ⟨i, hi, e⟩ := List.getElem_of_mem hl
    have el : lat ls i = l := lat_of (by rw [List.getElem?_eq_getElem hi, e])
    constructor
    · intro hq
      exact mem_met.mpr ⟨i, key i hi ⟨_, .inl (by rw [el]), hq⟩, .inr (by rw [el])⟩
    · intro hq
      exact mem_met.mpr ⟨i, key i hi ⟨_, .inr (by rw [el]), hq⟩, .inl (by rw [el])⟩
  have h1 : ∀ i, i ∈ part ↔ i < ls.length ∧ clr p ls i = clr p ls s := by
    intro i
    constructor
    · intro hi
      obtain ⟨a, b⟩ := I.sub i hi
      exact ⟨hn i a, b⟩
    · rintro ⟨hi, e⟩
      exact key i hi ⟨_, .inl rfl, (cm_sep cl e).mpr (mem_met.mpr ⟨s, hsp, .inl rfl⟩)⟩
  refine ⟨h1, ?_⟩
  rw [I.left_eq]
  refine List.filter_congr fun i hi => ?_
  have := h1 i
  have hin := hn i hi
  by_cases z : clr p ls i = clr p ls s
  · simp [z, this, hin]
  · simp [z, this, hin]
end
set_option wf.preprocess false in
/-- the first ones of each kind -/
def heads (c : Nat → Int) : List Nat → List Int
  | [] => []
  | i :: L => c i :: heads c (L.filter fun j => decide (c j ≠ c i))
termination_by L => L.length
decreasing_by exact Nat.lt_succ_of_le (List.length_filter_le _ _)
theorem heads_nil (c : Nat → Int) : heads c [] = [] := by rw [heads]
theorem heads_cons (c : Nat → Int) (i : Nat) (L : List Nat) : heads c (i :: L) = c i :: heads c (L.filter fun j => decide (c j ≠ c i)) := by rw [heads]
def uss (p : Int) (ls : List Ln) : List Int := heads (clr p ls) (List.range ls.length)
/-- the outer loop -/
structure Outn (p : Int) (ls : List Ln) (us : List Int) (left : List Nat) : Prop where
  left_eq : left = (List.range ls.length).filter fun i => decide (clr p ls i ∉ us)
  us_eq : us ++ heads (clr p ls) left = uss p ls
theorem Outn.start {p : Int} {ls : List Ln} : Outn p ls [] (List.range ls.length) := ⟨by rw [List.filter_eq_self.mpr (fun a _ => by simp)], rfl⟩
theorem Outn.step {p : Int} {ls : List Ln} {us : List Int} {s : Nat} {L left : List Nat} (O : Outn p ls us (s :: L)) (hl : left = (s :: L).filter fun i => decide (clr p ls i ≠ clr p ls s)) : Outn p ls (us ++ [clr p ls s]) left := by
  refine ⟨?_, ?_⟩
  · rw [hl, O.left_eq, List.filter_filter]
    refine List.filter_congr fun i _ => ?_
    by_cases a : clr p ls i = clr p ls s
    · simp [a]
    · by_cases b : clr p ls i ∈ us <;> simp [a, b]
  · rw [← O.us_eq, heads_cons, List.append_assoc, List.singleton_append, hl, List.filter_cons_of_neg (by simp)]
theorem Outn.facts {p : Int} {ls : List Ln} {us : List Int} {s : Nat} {L : List Nat} (O : Outn p ls us (s :: L)) : (∀ i ∈ s :: L, i < ls.length) ∧ (s :: L).Nodup ∧ ∀ i, i < ls.length → clr p ls i = clr p ls s → i ∈ s :: L := by
  have hm : ∀ i, i ∈ s :: L ↔ i < ls.length ∧ clr p ls i ∉ us := fun i => by rw [O.left_eq, List.mem_filter, List.mem_range, decide_eq_true_eq]
  refine ⟨fun i hi => ((hm i).mp hi).1, ?_, fun i hi e => (hm i).mpr ⟨hi, ?_⟩⟩
  · rw [O.left_eq]; exact List.nodup_range.filter _
  · rw [e]; exact ((hm s).mp List.mem_cons_self).2
theorem Outn.done {p : Int} {ls : List Ln} {us : List Int} (O : Outn p ls us []) : us = uss p ls := by
  have := O.us_eq
  rwa [heads_nil, List.append_nil] at this
end Pt
end Lw

set_option maxHeartbeats 4000000
namespace Lw
open PySem Fu
local macro_rules | `(tactic| walk_at "e1") => `(tactic| first
  | with_reducible refine eo_seq ?_ | (with_reducible refine then_nx' ?_; refine ⟨?_, ?_, ?_⟩; rotate_left; · (try dsimp only [List.set, List.length_cons, List.length_nil, List.cons_append, List.nil_append, Nat.zero_add, Nat.reduceAdd]); exact rfl) | with_reducible refine then_rt ?_ | with_reducible refine eo_if ?_ | with_reducible refine eo_ret ?_ | with_reducible refine eo_set ?_ | with_reducible refine eo_asg ?_ | with_reducible refine eo_drop ?_ | with_reducible refine eo_nx ?_ | with_reducible refine eo_par ?_ | with_reducible refine eo_own ?_ | with_reducible refine eo_retN ?_ | with_reducible refine eo_for ?_ | with_reducible refine eo_retO ?_
  | with_reducible refine ev_c ?_ | (with_reducible refine ev_var ?_; refine ⟨_, rfl, ?_⟩) | with_reducible refine ev_bin ?_ | with_reducible refine ev_un ?_ | with_reducible refine ev_nil ?_ | with_reducible refine ev_cons ?_
  | with_reducible refine ev_tup ?_ | with_reducible refine ev_lst ?_ | with_reducible refine ev_call ?_ | with_reducible refine ev_callF ?_ | with_reducible refine ev_isi ?_ | with_reducible refine ev_isi2 ?_ | with_reducible refine ev_andV ?_ | with_reducible refine ev_orV ?_ | with_reducible refine ev_notV ?_
  | with_reducible refine ev_B ?_ | with_reducible refine ev_and ?_ | with_reducible refine ev_or ?_ | with_reducible refine ev_not ?_ | with_reducible refine ev_yes ?_ | with_reducible refine ev_if ?_ | with_reducible refine ev_no ?_ | with_reducible refine ev_so ?_ | with_reducible refine ev_sl ?_ | with_reducible refine ev_items ?_
  | (with_reducible refine ev_ixO ?_; refine ⟨_, _, rfl, rfl, ?_⟩) | (with_reducible refine ev_varO ?_; refine ⟨_, _, rfl, rfl, ?_⟩) | (with_reducible refine ev_lenO ?_; refine ⟨_, _, rfl, rfl, ?_⟩) | (with_reducible refine ev_scrSl ?_; refine ⟨_, rfl, ?_⟩) | (with_reducible refine ev_scrLen ?_; refine ⟨_, rfl, ?_⟩) | (with_reducible refine ev_callScr ?_; refine ⟨_, rfl, ?_⟩) | (with_reducible refine ev_OL ?_; refine ⟨_, _, rfl, rfl, ?_⟩) | with_reducible refine ev_OR ?_ | with_reducible refine ev_rep ?_ | with_reducible refine ev_listRng1 ?_ | with_reducible refine eo_setO ?_
  | with_reducible refine es_name ?_ | with_reducible refine es_tup2 ?_ | with_reducible refine es_tup3 ?_
  | with_reducible refine ed_addI ?_ | with_reducible refine ed_subI ?_ | with_reducible refine ed_cmp ?_ | with_reducible refine ed_eqI ?_ | with_reducible refine ed_neI ?_ | with_reducible refine ed_slT ?_ | with_reducible refine ed_slL ?_ | with_reducible refine ed_lenT ?_ | with_reducible refine ed_lenL ?_ | with_reducible refine ed_lenS ?_ | with_reducible refine ed_inS ?_ | with_reducible refine ed_itT ?_ | with_reducible refine ed_itL ?_ | with_reducible refine ed_tupL ?_ | with_reducible refine ed_tupT ?_ | with_reducible refine ed_listL ?_ | with_reducible refine ed_listT ?_ | with_reducible refine ed_neg ?_ | with_reducible refine ed_max ?_ | with_reducible refine ed_min ?_ | with_reducible refine ed_intB ?_
  | with_reducible refine ev_rng1 ?_ | with_reducible refine ev_rng2 ?_)
local macro_rules | `(tactic| walk_at "sd") => `(tactic| first | rfl | assumption | (simp only [decide_eq_true_eq, decide_eq_false_iff_not, Bool.not_eq_true', Bool.not_eq_false', Bool.and_eq_true, Bool.or_eq_true, List.length_map, List.length_cons, List.length_nil, List.length_append, List.length_range] at *; omega))
local macro_rules | `(tactic| walk_at "e2") => `(tactic| first
  | walk_at "e1" | with_reducible refine ⟨_, rfl, ?_⟩ | with_reducible refine ⟨_, _, rfl, ?_⟩
  | with_reducible refine And.intro (Eq.refl (List.length _)) ?_ | with_reducible refine And.intro (Nat.le_of_ble_eq_true (n := List.length _) rfl) ?_
  | with_reducible refine And.intro (Eq.refl (_ : Sx)) (?_ : Ed _ _)
  | ((with_reducible refine And.intro ?_ (And.intro ?_ (?_ : Ev _ _))); (· rfl); (· rfl))
  | ((with_reducible refine ed_ixT ?_ ?_ ?_); (· decide); (· rfl)) | ((with_reducible refine ed_ixL ?_ ?_ ?_); (· decide); (· rfl)) | ((with_reducible refine ed_at ?_ ?_ ?_); (· decide); (· rfl))
  | ((with_reducible refine ed_modI ?_ ?_); (· first | decide | omega))
  | with_reducible exact gives_nx | ((with_reducible refine gives_rt ?_); (· rfl)) | ((with_reducible refine And.intro ?_ ?_); (· exact rfl); (· with_reducible exact Eq.refl (_ : Sx))))
local macro_rules | `(tactic| walk_at "e") => `(tactic| repeat walk_at "e2")
/-- begin a def's spec -/
local macro_rules | `(tactic| walk_at "i") => `(tactic| simp only [initS, List.map_cons, List.map_nil, List.length_cons, List.length_nil, Nat.reduceAdd, Nat.reduceSub, List.replicate, List.cons_append, List.nil_append])
/-- a known truth decides -/
local macro_rules | `(tactic| walk_at "t") => `(tactic| first | ((with_reducible refine split_t ?_ ?_); (· walk_at "sd")) | ((with_reducible refine split_t' ?_ ?_); (· walk_at "sd")))
local macro_rules | `(tactic| walk_at "f") => `(tactic| first | ((with_reducible refine split_f ?_ ?_); (· walk_at "sd")) | ((with_reducible refine split_f' ?_ ?_); (· walk_at "sd")))
/-- all that is seen in a look -/
local macro_rules | `(tactic| walk_at "v") => `(tactic| (rw [sealAll_mk (by (simp only [List.set_cons_zero, List.set_cons_succ, List.map_cons, List.map_nil, sealS_none, sealS_dat, sealS_scr, sealS_own, List.getElem?_cons_zero, List.getElem?_cons_succ, sealC_lst]; rfl)) (by (simp only [List.set_cons_zero, List.set_cons_succ, List.map_cons, List.map_nil]; rfl))]))
namespace Pt
open Gr
/-! ### sums by parts -/
/-- the places of a kind -/
def placesAt (p : Int) (ls : List Ln) (u : Int) : List Nat := (List.range p.toNat).filter fun i : Nat => decide (cm p ls i = u)
/-- what a part wants -/
def wantAt (p : Int) (ls : List Ln) (u : Int) : Int := ((placesAt p ls u).map fun i : Nat => wnt ls i).sum
/-- the fewest -/
def few (p : Int) (ls : List Ln) : Int := ((uss p ls).map fun u => max 1 ((wantAt p ls u + 1) / 2)).sum
end Pt
end Lw

set_option maxHeartbeats 4000000
namespace Lw
open PySem Fu
local macro_rules | `(tactic| walk_at "e1") => `(tactic| first
  | with_reducible refine eo_seq ?_ | (with_reducible refine then_nx' ?_; refine ⟨?_, ?_, ?_⟩; rotate_left; · (try dsimp only [List.set, List.length_cons, List.length_nil, List.cons_append, List.nil_append, Nat.zero_add, Nat.reduceAdd]); exact rfl) | with_reducible refine then_rt ?_ | with_reducible refine eo_if ?_ | with_reducible refine eo_ret ?_ | with_reducible refine eo_set ?_ | with_reducible refine eo_asg ?_ | with_reducible refine eo_drop ?_ | with_reducible refine eo_nx ?_ | with_reducible refine eo_par ?_ | with_reducible refine eo_own ?_ | with_reducible refine eo_retN ?_ | with_reducible refine eo_for ?_ | with_reducible refine eo_retO ?_
  | with_reducible refine ev_c ?_ | (with_reducible refine ev_var ?_; refine ⟨_, rfl, ?_⟩) | with_reducible refine ev_bin ?_ | with_reducible refine ev_un ?_ | with_reducible refine ev_nil ?_ | with_reducible refine ev_cons ?_
  | with_reducible refine ev_tup ?_ | with_reducible refine ev_lst ?_ | with_reducible refine ev_call ?_ | with_reducible refine ev_callF ?_ | with_reducible refine ev_isi ?_ | with_reducible refine ev_isi2 ?_ | with_reducible refine ev_andV ?_ | with_reducible refine ev_orV ?_ | with_reducible refine ev_notV ?_
  | with_reducible refine ev_B ?_ | with_reducible refine ev_and ?_ | with_reducible refine ev_or ?_ | with_reducible refine ev_not ?_ | with_reducible refine ev_yes ?_ | with_reducible refine ev_if ?_ | with_reducible refine ev_no ?_ | with_reducible refine ev_so ?_ | with_reducible refine ev_sl ?_ | with_reducible refine ev_items ?_
  | (with_reducible refine ev_ixO ?_; refine ⟨_, _, rfl, rfl, ?_⟩) | (with_reducible refine ev_varO ?_; refine ⟨_, _, rfl, rfl, ?_⟩) | (with_reducible refine ev_lenO ?_; refine ⟨_, _, rfl, rfl, ?_⟩) | (with_reducible refine ev_scrSl ?_; refine ⟨_, rfl, ?_⟩) | (with_reducible refine ev_scrLen ?_; refine ⟨_, rfl, ?_⟩) | (with_reducible refine ev_callScr ?_; refine ⟨_, rfl, ?_⟩) | (with_reducible refine ev_OL ?_; refine ⟨_, _, rfl, rfl, ?_⟩) | with_reducible refine ev_OR ?_ | with_reducible refine ev_rep ?_ | with_reducible refine ev_listRng1 ?_ | with_reducible refine eo_setO ?_
  | with_reducible refine es_name ?_ | with_reducible refine es_tup2 ?_ | with_reducible refine es_tup3 ?_
  | with_reducible refine ed_addI ?_ | with_reducible refine ed_subI ?_ | with_reducible refine ed_cmp ?_ | with_reducible refine ed_eqI ?_ | with_reducible refine ed_neI ?_ | with_reducible refine ed_slT ?_ | with_reducible refine ed_slL ?_ | with_reducible refine ed_lenT ?_ | with_reducible refine ed_lenL ?_ | with_reducible refine ed_lenS ?_ | with_reducible refine ed_inS ?_ | with_reducible refine ed_itT ?_ | with_reducible refine ed_itL ?_ | with_reducible refine ed_tupL ?_ | with_reducible refine ed_tupT ?_ | with_reducible refine ed_listL ?_ | with_reducible refine ed_listT ?_ | with_reducible refine ed_neg ?_ | with_reducible refine ed_max ?_ | with_reducible refine ed_min ?_ | with_reducible refine ed_intB ?_
  | with_reducible refine ev_rng1 ?_ | with_reducible refine ev_rng2 ?_)
local macro_rules | `(tactic| walk_at "sd") => `(tactic| first | rfl | assumption | (simp only [decide_eq_true_eq, decide_eq_false_iff_not, Bool.not_eq_true', Bool.not_eq_false', Bool.and_eq_true, Bool.or_eq_true, List.length_map, List.length_cons, List.length_nil, List.length_append, List.length_range] at *; omega))
local macro_rules | `(tactic| walk_at "e2") => `(tactic| first
  | walk_at "e1" | with_reducible refine ⟨_, rfl, ?_⟩ | with_reducible refine ⟨_, _, rfl, ?_⟩
  | with_reducible refine And.intro (Eq.refl (List.length _)) ?_ | with_reducible refine And.intro (Nat.le_of_ble_eq_true (n := List.length _) rfl) ?_
  | with_reducible refine And.intro (Eq.refl (_ : Sx)) (?_ : Ed _ _)
  | ((with_reducible refine And.intro ?_ (And.intro ?_ (?_ : Ev _ _))); (· rfl); (· rfl))
  | ((with_reducible refine ed_ixT ?_ ?_ ?_); (· decide); (· rfl)) | ((with_reducible refine ed_ixL ?_ ?_ ?_); (· decide); (· rfl)) | ((with_reducible refine ed_at ?_ ?_ ?_); (· decide); (· rfl))
  | ((with_reducible refine ed_modI ?_ ?_); (· first | decide | omega))
  | with_reducible exact gives_nx | ((with_reducible refine gives_rt ?_); (· rfl)) | ((with_reducible refine And.intro ?_ ?_); (· exact rfl); (· with_reducible exact Eq.refl (_ : Sx))))
local macro_rules | `(tactic| walk_at "e") => `(tactic| repeat walk_at "e2")
/-- begin a def's spec -/
local macro_rules | `(tactic| walk_at "i") => `(tactic| simp only [initS, List.map_cons, List.map_nil, List.length_cons, List.length_nil, Nat.reduceAdd, Nat.reduceSub, List.replicate, List.cons_append, List.nil_append])
/-- a known truth decides -/
local macro_rules | `(tactic| walk_at "t") => `(tactic| first | ((with_reducible refine split_t ?_ ?_); (· walk_at "sd")) | ((with_reducible refine split_t' ?_ ?_); (· walk_at "sd")))
local macro_rules | `(tactic| walk_at "f") => `(tactic| first | ((with_reducible refine split_f ?_ ?_); (· walk_at "sd")) | ((with_reducible refine split_f' ?_ ?_); (· walk_at "sd")))
/-- all that is seen in a look -/
local macro_rules | `(tactic| walk_at "v") => `(tactic| (rw [sealAll_mk (by (simp only [List.set_cons_zero, List.set_cons_succ, List.map_cons, List.map_nil, sealS_none, sealS_dat, sealS_scr, sealS_own, List.getElem?_cons_zero, List.getElem?_cons_succ, sealC_lst]; rfl)) (by (simp only [List.set_cons_zero, List.set_cons_succ, List.map_cons, List.map_nil]; rfl))]))
namespace Bg
/-! ### the bag -/
structure Bag (b : Nat) (cs : List D) : Prop where
  ex : ∃ (ns : List Int) (pos : Nat) (rest cnt total : Int), cs = [.list (ns.map .int), .int pos, .int rest, .int cnt, .int total] ∧ ns.length ≤ 63 ∧ pos ≤ ns.length ∧ 0 ≤ rest ∧ 0 ≤ cnt ∧ cnt + b ≤ 4294967296 ∧ 0 ≤ total ∧ total < 2305843009213693951
theorem Bag.mono {a b : Nat} {cs : List D} (h : Bag a cs) (l : b ≤ a) : Bag b cs := by
  obtain ⟨f, s, n, t, u, h1, h2, h3, h4, h5, h6, h7⟩ := h
  exact ⟨f, s, n, t, u, h1, h2, h3, h4, h5, by omega, h7⟩
end Bg
end Lw

set_option maxHeartbeats 4000000
namespace Lw
open PySem Fu
local macro_rules | `(tactic| walk_at "e1") => `(tactic| first
  | with_reducible refine eo_seq ?_ | (with_reducible refine then_nx' ?_; refine ⟨?_, ?_, ?_⟩; rotate_left; · (try dsimp only [List.set, List.length_cons, List.length_nil, List.cons_append, List.nil_append, Nat.zero_add, Nat.reduceAdd]); exact rfl) | with_reducible refine then_rt ?_ | with_reducible refine eo_if ?_ | with_reducible refine eo_ret ?_ | with_reducible refine eo_set ?_ | with_reducible refine eo_asg ?_ | with_reducible refine eo_drop ?_ | with_reducible refine eo_nx ?_ | with_reducible refine eo_par ?_ | with_reducible refine eo_own ?_ | with_reducible refine eo_retN ?_ | with_reducible refine eo_for ?_ | with_reducible refine eo_retO ?_
  | with_reducible refine ev_c ?_ | (with_reducible refine ev_var ?_; refine ⟨_, rfl, ?_⟩) | with_reducible refine ev_bin ?_ | with_reducible refine ev_un ?_ | with_reducible refine ev_nil ?_ | with_reducible refine ev_cons ?_
  | with_reducible refine ev_tup ?_ | with_reducible refine ev_lst ?_ | with_reducible refine ev_call ?_ | with_reducible refine ev_callF ?_ | with_reducible refine ev_isi ?_ | with_reducible refine ev_isi2 ?_ | with_reducible refine ev_andV ?_ | with_reducible refine ev_orV ?_ | with_reducible refine ev_notV ?_
  | with_reducible refine ev_B ?_ | with_reducible refine ev_and ?_ | with_reducible refine ev_or ?_ | with_reducible refine ev_not ?_ | with_reducible refine ev_yes ?_ | with_reducible refine ev_if ?_ | with_reducible refine ev_no ?_ | with_reducible refine ev_so ?_ | with_reducible refine ev_sl ?_ | with_reducible refine ev_items ?_
  | (with_reducible refine ev_ixO ?_; refine ⟨_, _, rfl, rfl, ?_⟩) | (with_reducible refine ev_varO ?_; refine ⟨_, _, rfl, rfl, ?_⟩) | (with_reducible refine ev_lenO ?_; refine ⟨_, _, rfl, rfl, ?_⟩) | (with_reducible refine ev_scrSl ?_; refine ⟨_, rfl, ?_⟩) | (with_reducible refine ev_scrLen ?_; refine ⟨_, rfl, ?_⟩) | (with_reducible refine ev_callScr ?_; refine ⟨_, rfl, ?_⟩) | (with_reducible refine ev_OL ?_; refine ⟨_, _, rfl, rfl, ?_⟩) | with_reducible refine ev_OR ?_ | with_reducible refine ev_rep ?_ | with_reducible refine ev_listRng1 ?_ | with_reducible refine eo_setO ?_
  | with_reducible refine es_name ?_ | with_reducible refine es_tup2 ?_ | with_reducible refine es_tup3 ?_
  | with_reducible refine ed_addI ?_ | with_reducible refine ed_subI ?_ | with_reducible refine ed_cmp ?_ | with_reducible refine ed_eqI ?_ | with_reducible refine ed_neI ?_ | with_reducible refine ed_slT ?_ | with_reducible refine ed_slL ?_ | with_reducible refine ed_lenT ?_ | with_reducible refine ed_lenL ?_ | with_reducible refine ed_lenS ?_ | with_reducible refine ed_inS ?_ | with_reducible refine ed_itT ?_ | with_reducible refine ed_itL ?_ | with_reducible refine ed_tupL ?_ | with_reducible refine ed_tupT ?_ | with_reducible refine ed_listL ?_ | with_reducible refine ed_listT ?_ | with_reducible refine ed_neg ?_ | with_reducible refine ed_max ?_ | with_reducible refine ed_min ?_ | with_reducible refine ed_intB ?_
  | with_reducible refine ev_rng1 ?_ | with_reducible refine ev_rng2 ?_)
local macro_rules | `(tactic| walk_at "sd") => `(tactic| first | rfl | assumption | (simp only [decide_eq_true_eq, decide_eq_false_iff_not, Bool.not_eq_true', Bool.not_eq_false', Bool.and_eq_true, Bool.or_eq_true, List.length_map, List.length_cons, List.length_nil, List.length_append, List.length_range] at *; omega))
local macro_rules | `(tactic| walk_at "e2") => `(tactic| first
  | walk_at "e1" | with_reducible refine ⟨_, rfl, ?_⟩ | with_reducible refine ⟨_, _, rfl, ?_⟩
  | with_reducible refine And.intro (Eq.refl (List.length _)) ?_ | with_reducible refine And.intro (Nat.le_of_ble_eq_true (n := List.length _) rfl) ?_
  | with_reducible refine And.intro (Eq.refl (_ : Sx)) (?_ : Ed _ _)
  | ((with_reducible refine And.intro ?_ (And.intro ?_ (?_ : Ev _ _))); (· rfl); (· rfl))
  | ((with_reducible refine ed_ixT ?_ ?_ ?_); (· decide); (· rfl)) | ((with_reducible refine ed_ixL ?_ ?_ ?_); (· decide); (· rfl)) | ((with_reducible refine ed_at ?_ ?_ ?_); (· decide); (· rfl))
  | ((with_reducible refine ed_modI ?_ ?_); (· first | decide | omega))
  | with_reducible exact gives_nx | ((with_reducible refine gives_rt ?_); (· rfl)) | ((with_reducible refine And.intro ?_ ?_); (· exact rfl); (· with_reducible exact Eq.refl (_ : Sx))))
local macro_rules | `(tactic| walk_at "e") => `(tactic| repeat walk_at "e2")
/-- begin a def's spec -/
local macro_rules | `(tactic| walk_at "i") => `(tactic| simp only [initS, List.map_cons, List.map_nil, List.length_cons, List.length_nil, Nat.reduceAdd, Nat.reduceSub, List.replicate, List.cons_append, List.nil_append])
/-- a known truth decides -/
local macro_rules | `(tactic| walk_at "t") => `(tactic| first | ((with_reducible refine split_t ?_ ?_); (· walk_at "sd")) | ((with_reducible refine split_t' ?_ ?_); (· walk_at "sd")))
local macro_rules | `(tactic| walk_at "f") => `(tactic| first | ((with_reducible refine split_f ?_ ?_); (· walk_at "sd")) | ((with_reducible refine split_f' ?_ ?_); (· walk_at "sd")))
/-- all that is seen in a look -/
local macro_rules | `(tactic| walk_at "v") => `(tactic| (rw [sealAll_mk (by (simp only [List.set_cons_zero, List.set_cons_succ, List.map_cons, List.map_nil, sealS_none, sealS_dat, sealS_scr, sealS_own, List.getElem?_cons_zero, List.getElem?_cons_succ, sealC_lst]; rfl)) (by (simp only [List.set_cons_zero, List.set_cons_succ, List.map_cons, List.map_nil]; rfl))]))
namespace Bg
end Bg
end Lw

set_option maxHeartbeats 4000000
namespace Lw
open PySem Fu
local macro_rules | `(tactic| walk_at "e1") => `(tactic| first
  | with_reducible refine eo_seq ?_ | (with_reducible refine then_nx' ?_; refine ⟨?_, ?_, ?_⟩; rotate_left; · (try dsimp only [List.set, List.length_cons, List.length_nil, List.cons_append, List.nil_append, Nat.zero_add, Nat.reduceAdd]); exact rfl) | with_reducible refine then_rt ?_ | with_reducible refine eo_if ?_ | with_reducible refine eo_ret ?_ | with_reducible refine eo_set ?_ | with_reducible refine eo_asg ?_ | with_reducible refine eo_drop ?_ | with_reducible refine eo_nx ?_ | with_reducible refine eo_par ?_ | with_reducible refine eo_own ?_ | with_reducible refine eo_retN ?_ | with_reducible refine eo_for ?_ | with_reducible refine eo_retO ?_
  | with_reducible refine ev_c ?_ | (with_reducible refine ev_var ?_; refine ⟨_, rfl, ?_⟩) | with_reducible refine ev_bin ?_ | with_reducible refine ev_un ?_ | with_reducible refine ev_nil ?_ | with_reducible refine ev_cons ?_
  | with_reducible refine ev_tup ?_ | with_reducible refine ev_lst ?_ | with_reducible refine ev_call ?_ | with_reducible refine ev_callF ?_ | with_reducible refine ev_isi ?_ | with_reducible refine ev_isi2 ?_ | with_reducible refine ev_andV ?_ | with_reducible refine ev_orV ?_ | with_reducible refine ev_notV ?_
  | with_reducible refine ev_B ?_ | with_reducible refine ev_and ?_ | with_reducible refine ev_or ?_ | with_reducible refine ev_not ?_ | with_reducible refine ev_yes ?_ | with_reducible refine ev_if ?_ | with_reducible refine ev_no ?_ | with_reducible refine ev_so ?_ | with_reducible refine ev_sl ?_ | with_reducible refine ev_items ?_
  | (with_reducible refine ev_ixO ?_; refine ⟨_, _, rfl, rfl, ?_⟩) | (with_reducible refine ev_varO ?_; refine ⟨_, _, rfl, rfl, ?_⟩) | (with_reducible refine ev_lenO ?_; refine ⟨_, _, rfl, rfl, ?_⟩) | (with_reducible refine ev_scrSl ?_; refine ⟨_, rfl, ?_⟩) | (with_reducible refine ev_scrLen ?_; refine ⟨_, rfl, ?_⟩) | (with_reducible refine ev_callScr ?_; refine ⟨_, rfl, ?_⟩) | (with_reducible refine ev_OL ?_; refine ⟨_, _, rfl, rfl, ?_⟩) | with_reducible refine ev_OR ?_ | with_reducible refine ev_rep ?_ | with_reducible refine ev_listRng1 ?_ | with_reducible refine eo_setO ?_
  | with_reducible refine es_name ?_ | with_reducible refine es_tup2 ?_ | with_reducible refine es_tup3 ?_
  | with_reducible refine ed_addI ?_ | with_reducible refine ed_subI ?_ | with_reducible refine ed_cmp ?_ | with_reducible refine ed_eqI ?_ | with_reducible refine ed_neI ?_ | with_reducible refine ed_slT ?_ | with_reducible refine ed_slL ?_ | with_reducible refine ed_lenT ?_ | with_reducible refine ed_lenL ?_ | with_reducible refine ed_lenS ?_ | with_reducible refine ed_inS ?_ | with_reducible refine ed_itT ?_ | with_reducible refine ed_itL ?_ | with_reducible refine ed_tupL ?_ | with_reducible refine ed_tupT ?_ | with_reducible refine ed_listL ?_ | with_reducible refine ed_listT ?_ | with_reducible refine ed_neg ?_ | with_reducible refine ed_max ?_ | with_reducible refine ed_min ?_ | with_reducible refine ed_intB ?_
  | with_reducible refine ev_rng1 ?_ | with_reducible refine ev_rng2 ?_)
local macro_rules | `(tactic| walk_at "sd") => `(tactic| first | rfl | assumption | (simp only [decide_eq_true_eq, decide_eq_false_iff_not, Bool.not_eq_true', Bool.not_eq_false', Bool.and_eq_true, Bool.or_eq_true, List.length_map, List.length_cons, List.length_nil, List.length_append, List.length_range] at *; omega))
local macro_rules | `(tactic| walk_at "e2") => `(tactic| first
  | walk_at "e1" | with_reducible refine ⟨_, rfl, ?_⟩ | with_reducible refine ⟨_, _, rfl, ?_⟩
  | with_reducible refine And.intro (Eq.refl (List.length _)) ?_ | with_reducible refine And.intro (Nat.le_of_ble_eq_true (n := List.length _) rfl) ?_
  | with_reducible refine And.intro (Eq.refl (_ : Sx)) (?_ : Ed _ _)
  | ((with_reducible refine And.intro ?_ (And.intro ?_ (?_ : Ev _ _))); (· rfl); (· rfl))
  | ((with_reducible refine ed_ixT ?_ ?_ ?_); (· decide); (· rfl)) | ((with_reducible refine ed_ixL ?_ ?_ ?_); (· decide); (· rfl)) | ((with_reducible refine ed_at ?_ ?_ ?_); (· decide); (· rfl))
  | ((with_reducible refine ed_modI ?_ ?_); (· first | decide | omega))
  | with_reducible exact gives_nx | ((with_reducible refine gives_rt ?_); (· rfl)) | ((with_reducible refine And.intro ?_ ?_); (· exact rfl); (· with_reducible exact Eq.refl (_ : Sx))))
local macro_rules | `(tactic| walk_at "e") => `(tactic| repeat walk_at "e2")
/-- begin a def's spec -/
local macro_rules | `(tactic| walk_at "i") => `(tactic| simp only [initS, List.map_cons, List.map_nil, List.length_cons, List.length_nil, Nat.reduceAdd, Nat.reduceSub, List.replicate, List.cons_append, List.nil_append])
/-- a known truth decides -/
local macro_rules | `(tactic| walk_at "t") => `(tactic| first | ((with_reducible refine split_t ?_ ?_); (· walk_at "sd")) | ((with_reducible refine split_t' ?_ ?_); (· walk_at "sd")))
local macro_rules | `(tactic| walk_at "f") => `(tactic| first | ((with_reducible refine split_f ?_ ?_); (· walk_at "sd")) | ((with_reducible refine split_f' ?_ ?_); (· walk_at "sd")))
/-- all that is seen in a look -/
local macro_rules | `(tactic| walk_at "v") => `(tactic| (rw [sealAll_mk (by (simp only [List.set_cons_zero, List.set_cons_succ, List.map_cons, List.map_nil, sealS_none, sealS_dat, sealS_scr, sealS_own, List.getElem?_cons_zero, List.getElem?_cons_succ, sealC_lst]; rfl)) (by (simp only [List.set_cons_zero, List.set_cons_succ, List.map_cons, List.map_nil]; rfl))]))
namespace Bg
open Sp
/-! ### a walk's lines, plainly -/
def lnAt (sp : List Int) (sg : List Nat) (i : Nat) (s : Int) : Ln := if s = 0 then (sp.getD i 0, sp.getD (i + 1) 0, sg.getD i 0) else (sp.getD (i + 1) 0, sp.getD i 0, sg.getD i 0)
structure Wk (n k : Nat) (sp : List Int) (od sg : List Nat) (qs : List (Option Ln)) (es : List (Int × Int)) : Prop where
  qlen : qs.length = n
  elen : es.length = k
  glen : sg.length = k
  at' : ∀ i, i < k → ∃ m s, od[i]? = some m ∧ (s = 0 ∨ s = 1) ∧ es[i]? = some ((m : Int), s) ∧ qs[m]? = some (some (lnAt sp sg i s))
theorem getD_add {α : Type} {xs : List α} {x d : α} {i : Nat} (h : i < xs.length) : (xs ++ [x]).getD i d = xs.getD i d := by
  rw [List.getD_eq_getElem?_getD, List.getD_eq_getElem?_getD, List.getElem?_append_left h]
theorem Wk.zero (n : Nat) (sp : List Int) (od : List Nat) : Wk n 0 sp od [] (List.replicate n none) [] := ⟨by simp, rfl, rfl, fun i h => absurd h (Nat.not_lt_zero _)⟩
theorem Wk.step {n k m : Nat} {sp : List Int} {od sg : List Nat} {qs : List (Option Ln)} {es : List (Int × Int)} {s : Int} {c : Nat} (h : Wk n k sp od sg qs es) (hnd : od.Nodup) (hm : od[k]? = some m) (hmn : m < n) (hs : s = 0 ∨ s = 1) :
    Wk n (k + 1) sp od (sg ++ [c]) (qs.set m (some (lnAt sp (sg ++ [c]) k s))) (es ++ [((m : Int), s)]) := by
  have hlt : m < qs.length := by rw [h.qlen]; exact hmn
  refine ⟨by simp [h.qlen], by simp [h.elen], by simp [h.glen], fun i hi => ?_⟩
  rcases Nat.lt_succ_iff_lt_or_eq.mp hi with hi | rfl
  · obtain ⟨m2, s2, h1, h2, h3, h4⟩ := h.at' i hi
    refine ⟨m2, s2, h1, h2, by rw [List.getElem?_append_left (by rw [h.elen]; exact hi)]; exact h3, ?_⟩
    have hne : m ≠ m2 := by
      rintro rfl
      obtain ⟨l1, e1⟩ := List.getElem?_eq_some_iff.mp hm
      obtain ⟨l2, e2⟩ := List.getElem?_eq_some_iff.mp h1
      have := (List.getElem_inj hnd).mp (e1.trans e2.symm)
      omega
    rw [List.getElem?_set_ne hne, h4]
    unfold lnAt
    rw [getD_add (by rw [h.glen]; exact hi)]
  · exact ⟨m, s, hm, hs, by rw [List.getElem?_append_right (by rw [h.elen]; exact Nat.le_refl _), h.elen, Nat.sub_self]; rfl, by rw [List.getElem?_set_self hlt]⟩
/-- a walk's web and ride -/
structure Walked (n : Nat) (sp : List Int) (od sg : List Nat) (ls : List Ln) (es : List (Int × Int)) : Prop where
  llen : ls.length = n
  elen : es.length = n
  glen : sg.length = n
  nd : od.Nodup
  at' : ∀ i, i < n → ∃ m s, od[i]? = some m ∧ (s = 0 ∨ s = 1) ∧ es[i]? = some ((m : Int), s) ∧ ls[m]? = some (lnAt sp sg i s)
theorem Wk.done {n : Nat} {sp : List Int} {od sg : List Nat} {qs : List (Option Ln)} {es : List (Int × Int)} (h : Wk n n sp od sg qs es) (hp : od.Perm (List.range n)) : ∃ ls : List Ln, qs = ls.map some ∧ Walked n sp od sg ls es := by
  have hl : od.length = n := by simpa using hp.length_eq
  obtain ⟨ls, rfl⟩ := all_some (qs := qs) fun q hq => by
    obtain ⟨m, hm⟩ := List.mem_iff_getElem?.mp hq
    have hlt := (List.getElem?_eq_some_iff.mp hm).1
    rw [h.qlen] at hlt
    have : m ∈ od := hp.mem_iff.mpr (List.mem_range.mpr hlt)
    obtain ⟨i, hi⟩ := List.mem_iff_getElem?.mp this
    have hin := (List.getElem?_eq_some_iff.mp hi).1
    obtain ⟨m2, s, e1, _, _, e4⟩ := h.at' i (by omega)
    rw [hi] at e1; cases e1
    rw [hm] at e4; cases e4
    exact ⟨_, rfl⟩
  refine ⟨ls, rfl, by have := h.qlen; simpa using this, h.elen, h.glen, hp.nodup_iff.mpr List.nodup_range, fun i hi => ?_⟩
  obtain ⟨m, s, e1, e2, e3, e4⟩ := h.at' i hi
  rw [List.getElem?_map] at e4
  obtain ⟨l, e5, e6⟩ := Option.map_eq_some_iff.mp e4
  cases e6
  exact ⟨m, s, e1, e2, e3, e5⟩
theorem Walked.at {n : Nat} {sp : List Int} {od sg : List Nat} {ls : List Ln} {es : List (Int × Int)} (h : Walked n sp od sg ls es) {i : Nat} (hi : i < n) :
    ∃ e, es[i]? = some e ∧ EndOk ls.length e ∧ plc ls e = sp.getD i 0 ∧ plc ls (far e) = sp.getD (i + 1) 0 ∧ cmpy ls e = sg.getD i 0 := by
  obtain ⟨m, s, _, hs, h1, h2⟩ := h.at' i hi
  have hm := (List.getElem?_eq_some_iff.mp h2).1
  refine ⟨_, h1, ⟨by simp, by simpa using hm, by simp only; omega, by simp only; omega⟩, ?_, ?_, ?_⟩
  · unfold plc
    simp only [Int.toNat_natCast, h2]
    rcases hs with rfl | rfl <;> simp [sideOf, lnAt]
  · unfold plc far
    simp only [Int.toNat_natCast, h2]
    rcases hs with rfl | rfl <;> simp [sideOf, lnAt]
  · unfold cmpy
    simp only [Int.toNat_natCast, h2]
    rcases hs with rfl | rfl <;> simp [lnAt]
end Bg
end Lw

set_option maxHeartbeats 4000000
namespace Lw
open PySem Fu
local macro_rules | `(tactic| walk_at "e1") => `(tactic| first
  | with_reducible refine eo_seq ?_ | (with_reducible refine then_nx' ?_; refine ⟨?_, ?_, ?_⟩; rotate_left; · (try dsimp only [List.set, List.length_cons, List.length_nil, List.cons_append, List.nil_append, Nat.zero_add, Nat.reduceAdd]); exact rfl) | with_reducible refine then_rt ?_ | with_reducible refine eo_if ?_ | with_reducible refine eo_ret ?_ | with_reducible refine eo_set ?_ | with_reducible refine eo_asg ?_ | with_reducible refine eo_drop ?_ | with_reducible refine eo_nx ?_ | with_reducible refine eo_par ?_ | with_reducible refine eo_own ?_ | with_reducible refine eo_retN ?_ | with_reducible refine eo_for ?_ | with_reducible refine eo_retO ?_
  | with_reducible refine ev_c ?_ | (with_reducible refine ev_var ?_; refine ⟨_, rfl, ?_⟩) | with_reducible refine ev_bin ?_ | with_reducible refine ev_un ?_ | with_reducible refine ev_nil ?_ | with_reducible refine ev_cons ?_
  | with_reducible refine ev_tup ?_ | with_reducible refine ev_lst ?_ | with_reducible refine ev_call ?_ | with_reducible refine ev_callF ?_ | with_reducible refine ev_isi ?_ | with_reducible refine ev_isi2 ?_ | with_reducible refine ev_andV ?_ | with_reducible refine ev_orV ?_ | with_reducible refine ev_notV ?_
  | with_reducible refine ev_B ?_ | with_reducible refine ev_and ?_ | with_reducible refine ev_or ?_ | with_reducible refine ev_not ?_ | with_reducible refine ev_yes ?_ | with_reducible refine ev_if ?_ | with_reducible refine ev_no ?_ | with_reducible refine ev_so ?_ | with_reducible refine ev_sl ?_ | with_reducible refine ev_items ?_
  | (with_reducible refine ev_ixO ?_; refine ⟨_, _, rfl, rfl, ?_⟩) | (with_reducible refine ev_varO ?_; refine ⟨_, _, rfl, rfl, ?_⟩) | (with_reducible refine ev_lenO ?_; refine ⟨_, _, rfl, rfl, ?_⟩) | (with_reducible refine ev_scrSl ?_; refine ⟨_, rfl, ?_⟩) | (with_reducible refine ev_scrLen ?_; refine ⟨_, rfl, ?_⟩) | (with_reducible refine ev_callScr ?_; refine ⟨_, rfl, ?_⟩) | (with_reducible refine ev_OL ?_; refine ⟨_, _, rfl, rfl, ?_⟩) | with_reducible refine ev_OR ?_ | with_reducible refine ev_rep ?_ | with_reducible refine ev_listRng1 ?_ | with_reducible refine eo_setO ?_
  | with_reducible refine es_name ?_ | with_reducible refine es_tup2 ?_ | with_reducible refine es_tup3 ?_
  | with_reducible refine ed_addI ?_ | with_reducible refine ed_subI ?_ | with_reducible refine ed_cmp ?_ | with_reducible refine ed_eqI ?_ | with_reducible refine ed_neI ?_ | with_reducible refine ed_slT ?_ | with_reducible refine ed_slL ?_ | with_reducible refine ed_lenT ?_ | with_reducible refine ed_lenL ?_ | with_reducible refine ed_lenS ?_ | with_reducible refine ed_inS ?_ | with_reducible refine ed_itT ?_ | with_reducible refine ed_itL ?_ | with_reducible refine ed_tupL ?_ | with_reducible refine ed_tupT ?_ | with_reducible refine ed_listL ?_ | with_reducible refine ed_listT ?_ | with_reducible refine ed_neg ?_ | with_reducible refine ed_max ?_ | with_reducible refine ed_min ?_ | with_reducible refine ed_intB ?_
  | with_reducible refine ev_rng1 ?_ | with_reducible refine ev_rng2 ?_)
local macro_rules | `(tactic| walk_at "sd") => `(tactic| first | rfl | assumption | (simp only [decide_eq_true_eq, decide_eq_false_iff_not, Bool.not_eq_true', Bool.not_eq_false', Bool.and_eq_true, Bool.or_eq_true, List.length_map, List.length_cons, List.length_nil, List.length_append, List.length_range] at *; omega))
local macro_rules | `(tactic| walk_at "e2") => `(tactic| first
  | walk_at "e1" | with_reducible refine ⟨_, rfl, ?_⟩ | with_reducible refine ⟨_, _, rfl, ?_⟩
  | with_reducible refine And.intro (Eq.refl (List.length _)) ?_ | with_reducible refine And.intro (Nat.le_of_ble_eq_true (n := List.length _) rfl) ?_
  | with_reducible refine And.intro (Eq.refl (_ : Sx)) (?_ : Ed _ _)
  | ((with_reducible refine And.intro ?_ (And.intro ?_ (?_ : Ev _ _))); (· rfl); (· rfl))
  | ((with_reducible refine ed_ixT ?_ ?_ ?_); (· decide); (· rfl)) | ((with_reducible refine ed_ixL ?_ ?_ ?_); (· decide); (· rfl)) | ((with_reducible refine ed_at ?_ ?_ ?_); (· decide); (· rfl))
  | ((with_reducible refine ed_modI ?_ ?_); (· first | decide | omega))
  | with_reducible exact gives_nx | ((with_reducible refine gives_rt ?_); (· rfl)) | ((with_reducible refine And.intro ?_ ?_); (· exact rfl); (· with_reducible exact Eq.refl (_ : Sx))))
local macro_rules | `(tactic| walk_at "e") => `(tactic| repeat walk_at "e2")
/-- begin a def's spec -/
local macro_rules | `(tactic| walk_at "i") => `(tactic| simp only [initS, List.map_cons, List.map_nil, List.length_cons, List.length_nil, Nat.reduceAdd, Nat.reduceSub, List.replicate, List.cons_append, List.nil_append])
/-- a known truth decides -/
local macro_rules | `(tactic| walk_at "t") => `(tactic| first | ((with_reducible refine split_t ?_ ?_); (· walk_at "sd")) | ((with_reducible refine split_t' ?_ ?_); (· walk_at "sd")))
local macro_rules | `(tactic| walk_at "f") => `(tactic| first | ((with_reducible refine split_f ?_ ?_); (· walk_at "sd")) | ((with_reducible refine split_f' ?_ ?_); (· walk_at "sd")))
/-- all that is seen in a look -/
local macro_rules | `(tactic| walk_at "v") => `(tactic| (rw [sealAll_mk (by (simp only [List.set_cons_zero, List.set_cons_succ, List.map_cons, List.map_nil, sealS_none, sealS_dat, sealS_scr, sealS_own, List.getElem?_cons_zero, List.getElem?_cons_succ, sealC_lst]; rfl)) (by (simp only [List.set_cons_zero, List.set_cons_succ, List.map_cons, List.map_nil]; rfl))]))
namespace Bg
open Sp
end Bg
end Lw

set_option maxHeartbeats 4000000
namespace Lw
open PySem Fu
local macro_rules | `(tactic| walk_at "e1") => `(tactic| first
  | with_reducible refine eo_seq ?_ | (with_reducible refine then_nx' ?_; refine ⟨?_, ?_, ?_⟩; rotate_left; · (try dsimp only [List.set, List.length_cons, List.length_nil, List.cons_append, List.nil_append, Nat.zero_add, Nat.reduceAdd]); exact rfl) | with_reducible refine then_rt ?_ | with_reducible refine eo_if ?_ | with_reducible refine eo_ret ?_ | with_reducible refine eo_set ?_ | with_reducible refine eo_asg ?_ | with_reducible refine eo_drop ?_ | with_reducible refine eo_nx ?_ | with_reducible refine eo_par ?_ | with_reducible refine eo_own ?_ | with_reducible refine eo_retN ?_ | with_reducible refine eo_for ?_ | with_reducible refine eo_retO ?_
  | with_reducible refine ev_c ?_ | (with_reducible refine ev_var ?_; refine ⟨_, rfl, ?_⟩) | with_reducible refine ev_bin ?_ | with_reducible refine ev_un ?_ | with_reducible refine ev_nil ?_ | with_reducible refine ev_cons ?_
  | with_reducible refine ev_tup ?_ | with_reducible refine ev_lst ?_ | with_reducible refine ev_call ?_ | with_reducible refine ev_callF ?_ | with_reducible refine ev_isi ?_ | with_reducible refine ev_isi2 ?_ | with_reducible refine ev_andV ?_ | with_reducible refine ev_orV ?_ | with_reducible refine ev_notV ?_
  | with_reducible refine ev_B ?_ | with_reducible refine ev_and ?_ | with_reducible refine ev_or ?_ | with_reducible refine ev_not ?_ | with_reducible refine ev_yes ?_ | with_reducible refine ev_if ?_ | with_reducible refine ev_no ?_ | with_reducible refine ev_so ?_ | with_reducible refine ev_sl ?_ | with_reducible refine ev_items ?_
  | (with_reducible refine ev_ixO ?_; refine ⟨_, _, rfl, rfl, ?_⟩) | (with_reducible refine ev_varO ?_; refine ⟨_, _, rfl, rfl, ?_⟩) | (with_reducible refine ev_lenO ?_; refine ⟨_, _, rfl, rfl, ?_⟩) | (with_reducible refine ev_scrSl ?_; refine ⟨_, rfl, ?_⟩) | (with_reducible refine ev_scrLen ?_; refine ⟨_, rfl, ?_⟩) | (with_reducible refine ev_callScr ?_; refine ⟨_, rfl, ?_⟩) | (with_reducible refine ev_OL ?_; refine ⟨_, _, rfl, rfl, ?_⟩) | with_reducible refine ev_OR ?_ | with_reducible refine ev_rep ?_ | with_reducible refine ev_listRng1 ?_ | with_reducible refine eo_setO ?_
  | with_reducible refine es_name ?_ | with_reducible refine es_tup2 ?_ | with_reducible refine es_tup3 ?_
  | with_reducible refine ed_addI ?_ | with_reducible refine ed_subI ?_ | with_reducible refine ed_cmp ?_ | with_reducible refine ed_eqI ?_ | with_reducible refine ed_neI ?_ | with_reducible refine ed_slT ?_ | with_reducible refine ed_slL ?_ | with_reducible refine ed_lenT ?_ | with_reducible refine ed_lenL ?_ | with_reducible refine ed_lenS ?_ | with_reducible refine ed_inS ?_ | with_reducible refine ed_itT ?_ | with_reducible refine ed_itL ?_ | with_reducible refine ed_tupL ?_ | with_reducible refine ed_tupT ?_ | with_reducible refine ed_listL ?_ | with_reducible refine ed_listT ?_ | with_reducible refine ed_neg ?_ | with_reducible refine ed_max ?_ | with_reducible refine ed_min ?_ | with_reducible refine ed_intB ?_
  | with_reducible refine ev_rng1 ?_ | with_reducible refine ev_rng2 ?_)
local macro_rules | `(tactic| walk_at "sd") => `(tactic| first | rfl | assumption | (simp only [decide_eq_true_eq, decide_eq_false_iff_not, Bool.not_eq_true', Bool.not_eq_false', Bool.and_eq_true, Bool.or_eq_true, List.length_map, List.length_cons, List.length_nil, List.length_append, List.length_range] at *; omega))
local macro_rules | `(tactic| walk_at "e2") => `(tactic| first
  | walk_at "e1" | with_reducible refine ⟨_, rfl, ?_⟩ | with_reducible refine ⟨_, _, rfl, ?_⟩
  | with_reducible refine And.intro (Eq.refl (List.length _)) ?_ | with_reducible refine And.intro (Nat.le_of_ble_eq_true (n := List.length _) rfl) ?_
  | with_reducible refine And.intro (Eq.refl (_ : Sx)) (?_ : Ed _ _)
  | ((with_reducible refine And.intro ?_ (And.intro ?_ (?_ : Ev _ _))); (· rfl); (· rfl))
  | ((with_reducible refine ed_ixT ?_ ?_ ?_); (· decide); (· rfl)) | ((with_reducible refine ed_ixL ?_ ?_ ?_); (· decide); (· rfl)) | ((with_reducible refine ed_at ?_ ?_ ?_); (· decide); (· rfl))
  | ((with_reducible refine ed_modI ?_ ?_); (· first | decide | omega))
  | with_reducible exact gives_nx | ((with_reducible refine gives_rt ?_); (· rfl)) | ((with_reducible refine And.intro ?_ ?_); (· exact rfl); (· with_reducible exact Eq.refl (_ : Sx))))
local macro_rules | `(tactic| walk_at "e") => `(tactic| repeat walk_at "e2")
/-- begin a def's spec -/
local macro_rules | `(tactic| walk_at "i") => `(tactic| simp only [initS, List.map_cons, List.map_nil, List.length_cons, List.length_nil, Nat.reduceAdd, Nat.reduceSub, List.replicate, List.cons_append, List.nil_append])
/-- a known truth decides -/
local macro_rules | `(tactic| walk_at "t") => `(tactic| first | ((with_reducible refine split_t ?_ ?_); (· walk_at "sd")) | ((with_reducible refine split_t' ?_ ?_); (· walk_at "sd")))
local macro_rules | `(tactic| walk_at "f") => `(tactic| first | ((with_reducible refine split_f ?_ ?_); (· walk_at "sd")) | ((with_reducible refine split_f' ?_ ?_); (· walk_at "sd")))
/-- all that is seen in a look -/
local macro_rules | `(tactic| walk_at "v") => `(tactic| (rw [sealAll_mk (by (simp only [List.set_cons_zero, List.set_cons_succ, List.map_cons, List.map_nil, sealS_none, sealS_dat, sealS_scr, sealS_own, List.getElem?_cons_zero, List.getElem?_cons_succ, sealC_lst]; rfl)) (by (simp only [List.set_cons_zero, List.set_cons_succ, List.map_cons, List.map_nil]; rfl))]))
namespace Bg
open Sp
end Bg
end Lw

set_option maxHeartbeats 4000000
namespace Lw
open PySem Fu
local macro_rules | `(tactic| walk_at "e1") => `(tactic| first
  | with_reducible refine eo_seq ?_ | (with_reducible refine then_nx' ?_; refine ⟨?_, ?_, ?_⟩; rotate_left; · (try dsimp only [List.set, List.length_cons, List.length_nil, List.cons_append, List.nil_append, Nat.zero_add, Nat.reduceAdd]); exact rfl) | with_reducible refine then_rt ?_ | with_reducible refine eo_if ?_ | with_reducible refine eo_ret ?_ | with_reducible refine eo_set ?_ | with_reducible refine eo_asg ?_ | with_reducible refine eo_drop ?_ | with_reducible refine eo_nx ?_ | with_reducible refine eo_par ?_ | with_reducible refine eo_own ?_ | with_reducible refine eo_retN ?_ | with_reducible refine eo_for ?_ | with_reducible refine eo_retO ?_
  | with_reducible refine ev_c ?_ | (with_reducible refine ev_var ?_; refine ⟨_, rfl, ?_⟩) | with_reducible refine ev_bin ?_ | with_reducible refine ev_un ?_ | with_reducible refine ev_nil ?_ | with_reducible refine ev_cons ?_
  | with_reducible refine ev_tup ?_ | with_reducible refine ev_lst ?_ | with_reducible refine ev_call ?_ | with_reducible refine ev_callF ?_ | with_reducible refine ev_isi ?_ | with_reducible refine ev_isi2 ?_ | with_reducible refine ev_andV ?_ | with_reducible refine ev_orV ?_ | with_reducible refine ev_notV ?_
  | with_reducible refine ev_B ?_ | with_reducible refine ev_and ?_ | with_reducible refine ev_or ?_ | with_reducible refine ev_not ?_ | with_reducible refine ev_yes ?_ | with_reducible refine ev_if ?_ | with_reducible refine ev_no ?_ | with_reducible refine ev_so ?_ | with_reducible refine ev_sl ?_ | with_reducible refine ev_items ?_
  | (with_reducible refine ev_ixO ?_; refine ⟨_, _, rfl, rfl, ?_⟩) | (with_reducible refine ev_varO ?_; refine ⟨_, _, rfl, rfl, ?_⟩) | (with_reducible refine ev_lenO ?_; refine ⟨_, _, rfl, rfl, ?_⟩) | (with_reducible refine ev_scrSl ?_; refine ⟨_, rfl, ?_⟩) | (with_reducible refine ev_scrLen ?_; refine ⟨_, rfl, ?_⟩) | (with_reducible refine ev_callScr ?_; refine ⟨_, rfl, ?_⟩) | (with_reducible refine ev_OL ?_; refine ⟨_, _, rfl, rfl, ?_⟩) | with_reducible refine ev_OR ?_ | with_reducible refine ev_rep ?_ | with_reducible refine ev_listRng1 ?_ | with_reducible refine eo_setO ?_
  | with_reducible refine es_name ?_ | with_reducible refine es_tup2 ?_ | with_reducible refine es_tup3 ?_
  | with_reducible refine ed_addI ?_ | with_reducible refine ed_subI ?_ | with_reducible refine ed_cmp ?_ | with_reducible refine ed_eqI ?_ | with_reducible refine ed_neI ?_ | with_reducible refine ed_slT ?_ | with_reducible refine ed_slL ?_ | with_reducible refine ed_lenT ?_ | with_reducible refine ed_lenL ?_ | with_reducible refine ed_lenS ?_ | with_reducible refine ed_inS ?_ | with_reducible refine ed_itT ?_ | with_reducible refine ed_itL ?_ | with_reducible refine ed_tupL ?_ | with_reducible refine ed_tupT ?_ | with_reducible refine ed_listL ?_ | with_reducible refine ed_listT ?_ | with_reducible refine ed_neg ?_ | with_reducible refine ed_max ?_ | with_reducible refine ed_min ?_ | with_reducible refine ed_intB ?_
  | with_reducible refine ev_rng1 ?_ | with_reducible refine ev_rng2 ?_)
local macro_rules | `(tactic| walk_at "sd") => `(tactic| first | rfl | assumption | (simp only [decide_eq_true_eq, decide_eq_false_iff_not, Bool.not_eq_true', Bool.not_eq_false', Bool.and_eq_true, Bool.or_eq_true, List.length_map, List.length_cons, List.length_nil, List.length_append, List.length_range] at *; omega))
local macro_rules | `(tactic| walk_at "e2") => `(tactic| first
  | walk_at "e1" | with_reducible refine ⟨_, rfl, ?_⟩ | with_reducible refine ⟨_, _, rfl, ?_⟩
  | with_reducible refine And.intro (Eq.refl (List.length _)) ?_ | with_reducible refine And.intro (Nat.le_of_ble_eq_true (n := List.length _) rfl) ?_
  | with_reducible refine And.intro (Eq.refl (_ : Sx)) (?_ : Ed _ _)
  | ((with_reducible refine And.intro ?_ (And.intro ?_ (?_ : Ev _ _))); (· rfl); (· rfl))
  | ((with_reducible refine ed_ixT ?_ ?_ ?_); (· decide); (· rfl)) | ((with_reducible refine ed_ixL ?_ ?_ ?_); (· decide); (· rfl)) | ((with_reducible refine ed_at ?_ ?_ ?_); (· decide); (· rfl))
  | ((with_reducible refine ed_modI ?_ ?_); (· first | decide | omega))
  | with_reducible exact gives_nx | ((with_reducible refine gives_rt ?_); (· rfl)) | ((with_reducible refine And.intro ?_ ?_); (· exact rfl); (· with_reducible exact Eq.refl (_ : Sx))))
local macro_rules | `(tactic| walk_at "e") => `(tactic| repeat walk_at "e2")
/-- begin a def's spec -/
local macro_rules | `(tactic| walk_at "i") => `(tactic| simp only [initS, List.map_cons, List.map_nil, List.length_cons, List.length_nil, Nat.reduceAdd, Nat.reduceSub, List.replicate, List.cons_append, List.nil_append])
/-- a known truth decides -/
local macro_rules | `(tactic| walk_at "t") => `(tactic| first | ((with_reducible refine split_t ?_ ?_); (· walk_at "sd")) | ((with_reducible refine split_t' ?_ ?_); (· walk_at "sd")))
local macro_rules | `(tactic| walk_at "f") => `(tactic| first | ((with_reducible refine split_f ?_ ?_); (· walk_at "sd")) | ((with_reducible refine split_f' ?_ ?_); (· walk_at "sd")))
/-- all that is seen in a look -/
local macro_rules | `(tactic| walk_at "v") => `(tactic| (rw [sealAll_mk (by (simp only [List.set_cons_zero, List.set_cons_succ, List.map_cons, List.map_nil, sealS_none, sealS_dat, sealS_scr, sealS_own, List.getElem?_cons_zero, List.getElem?_cons_succ, sealC_lst]; rfl)) (by (simp only [List.set_cons_zero, List.set_cons_succ, List.map_cons, List.map_nil]; rfl))]))
/-! ### rounds handed in, places, the other way about: of any data -/
/-! ### turnings -/
def tD (t : List Nat) : D := .tuple (t.map fun i : Nat => PyData.int (i : Int))
def put (t : List Nat) (es : List (Int × Int)) : List (Int × Int) := match t with
  | [i, j] => es.take i ++ rv ((es.take j).drop i) ++ es.drop j
  | [i, j, k, l] => es.take i ++ (es.take l).drop k ++ (es.take k).drop j ++ (es.take j).drop i ++ es.drop l
  | _ => es
/-! ### which turnings may be -/
def mates (ps : List Int) (i : Nat) : List Nat := ((List.range (ps.length - (i + 1))).map fun k => i + 1 + k).filter fun j => decide (ps.getD j 0 = ps.getD i 0)
def pairs (ps : List Int) (n : Nat) : List (List Nat) := (List.range n).flatMap fun i => (mates ps i).map fun j => [i, j]
end Lw

set_option maxHeartbeats 4000000
namespace Lw
open PySem Fu
local macro_rules | `(tactic| walk_at "e1") => `(tactic| first
  | with_reducible refine eo_seq ?_ | (with_reducible refine then_nx' ?_; refine ⟨?_, ?_, ?_⟩; rotate_left; · (try dsimp only [List.set, List.length_cons, List.length_nil, List.cons_append, List.nil_append, Nat.zero_add, Nat.reduceAdd]); exact rfl) | with_reducible refine then_rt ?_ | with_reducible refine eo_if ?_ | with_reducible refine eo_ret ?_ | with_reducible refine eo_set ?_ | with_reducible refine eo_asg ?_ | with_reducible refine eo_drop ?_ | with_reducible refine eo_nx ?_ | with_reducible refine eo_par ?_ | with_reducible refine eo_own ?_ | with_reducible refine eo_retN ?_ | with_reducible refine eo_for ?_ | with_reducible refine eo_retO ?_
  | with_reducible refine ev_c ?_ | (with_reducible refine ev_var ?_; refine ⟨_, rfl, ?_⟩) | with_reducible refine ev_bin ?_ | with_reducible refine ev_un ?_ | with_reducible refine ev_nil ?_ | with_reducible refine ev_cons ?_
  | with_reducible refine ev_tup ?_ | with_reducible refine ev_lst ?_ | with_reducible refine ev_call ?_ | with_reducible refine ev_callF ?_ | with_reducible refine ev_isi ?_ | with_reducible refine ev_isi2 ?_ | with_reducible refine ev_andV ?_ | with_reducible refine ev_orV ?_ | with_reducible refine ev_notV ?_
  | with_reducible refine ev_B ?_ | with_reducible refine ev_and ?_ | with_reducible refine ev_or ?_ | with_reducible refine ev_not ?_ | with_reducible refine ev_yes ?_ | with_reducible refine ev_if ?_ | with_reducible refine ev_no ?_ | with_reducible refine ev_so ?_ | with_reducible refine ev_sl ?_ | with_reducible refine ev_items ?_
  | (with_reducible refine ev_ixO ?_; refine ⟨_, _, rfl, rfl, ?_⟩) | (with_reducible refine ev_varO ?_; refine ⟨_, _, rfl, rfl, ?_⟩) | (with_reducible refine ev_lenO ?_; refine ⟨_, _, rfl, rfl, ?_⟩) | (with_reducible refine ev_scrSl ?_; refine ⟨_, rfl, ?_⟩) | (with_reducible refine ev_scrLen ?_; refine ⟨_, rfl, ?_⟩) | (with_reducible refine ev_callScr ?_; refine ⟨_, rfl, ?_⟩) | (with_reducible refine ev_OL ?_; refine ⟨_, _, rfl, rfl, ?_⟩) | with_reducible refine ev_OR ?_ | with_reducible refine ev_rep ?_ | with_reducible refine ev_listRng1 ?_ | with_reducible refine eo_setO ?_
  | with_reducible refine es_name ?_ | with_reducible refine es_tup2 ?_ | with_reducible refine es_tup3 ?_
  | with_reducible refine ed_addI ?_ | with_reducible refine ed_subI ?_ | with_reducible refine ed_cmp ?_ | with_reducible refine ed_eqI ?_ | with_reducible refine ed_neI ?_ | with_reducible refine ed_slT ?_ | with_reducible refine ed_slL ?_ | with_reducible refine ed_lenT ?_ | with_reducible refine ed_lenL ?_ | with_reducible refine ed_lenS ?_ | with_reducible refine ed_inS ?_ | with_reducible refine ed_itT ?_ | with_reducible refine ed_itL ?_ | with_reducible refine ed_tupL ?_ | with_reducible refine ed_tupT ?_ | with_reducible refine ed_listL ?_ | with_reducible refine ed_listT ?_ | with_reducible refine ed_neg ?_ | with_reducible refine ed_max ?_ | with_reducible refine ed_min ?_ | with_reducible refine ed_intB ?_
  | with_reducible refine ev_rng1 ?_ | with_reducible refine ev_rng2 ?_)
local macro_rules | `(tactic| walk_at "sd") => `(tactic| first | rfl | assumption | (simp only [decide_eq_true_eq, decide_eq_false_iff_not, Bool.not_eq_true', Bool.not_eq_false', Bool.and_eq_true, Bool.or_eq_true, List.length_map, List.length_cons, List.length_nil, List.length_append, List.length_range] at *; omega))
local macro_rules | `(tactic| walk_at "e2") => `(tactic| first
  | walk_at "e1" | with_reducible refine ⟨_, rfl, ?_⟩ | with_reducible refine ⟨_, _, rfl, ?_⟩
  | with_reducible refine And.intro (Eq.refl (List.length _)) ?_ | with_reducible refine And.intro (Nat.le_of_ble_eq_true (n := List.length _) rfl) ?_
  | with_reducible refine And.intro (Eq.refl (_ : Sx)) (?_ : Ed _ _)
  | ((with_reducible refine And.intro ?_ (And.intro ?_ (?_ : Ev _ _))); (· rfl); (· rfl))
  | ((with_reducible refine ed_ixT ?_ ?_ ?_); (· decide); (· rfl)) | ((with_reducible refine ed_ixL ?_ ?_ ?_); (· decide); (· rfl)) | ((with_reducible refine ed_at ?_ ?_ ?_); (· decide); (· rfl))
  | ((with_reducible refine ed_modI ?_ ?_); (· first | decide | omega))
  | with_reducible exact gives_nx | ((with_reducible refine gives_rt ?_); (· rfl)) | ((with_reducible refine And.intro ?_ ?_); (· exact rfl); (· with_reducible exact Eq.refl (_ : Sx))))
local macro_rules | `(tactic| walk_at "e") => `(tactic| repeat walk_at "e2")
/-- begin a def's spec -/
local macro_rules | `(tactic| walk_at "i") => `(tactic| simp only [initS, List.map_cons, List.map_nil, List.length_cons, List.length_nil, Nat.reduceAdd, Nat.reduceSub, List.replicate, List.cons_append, List.nil_append])
/-- a known truth decides -/
local macro_rules | `(tactic| walk_at "t") => `(tactic| first | ((with_reducible refine split_t ?_ ?_); (· walk_at "sd")) | ((with_reducible refine split_t' ?_ ?_); (· walk_at "sd")))
local macro_rules | `(tactic| walk_at "f") => `(tactic| first | ((with_reducible refine split_f ?_ ?_); (· walk_at "sd")) | ((with_reducible refine split_f' ?_ ?_); (· walk_at "sd")))
/-- all that is seen in a look -/
local macro_rules | `(tactic| walk_at "v") => `(tactic| (rw [sealAll_mk (by (simp only [List.set_cons_zero, List.set_cons_succ, List.map_cons, List.map_nil, sealS_none, sealS_dat, sealS_scr, sealS_own, List.getElem?_cons_zero, List.getElem?_cons_succ, sealC_lst]; rfl)) (by (simp only [List.set_cons_zero, List.set_cons_succ, List.map_cons, List.map_nil]; rfl))]))
def fours (ps : List Int) (t : List Nat) : List (List Nat) := match t with
  | [i, k] => ((pairs ps ps.length).filter fun u => match u with
    | [j, l] => decide (i < j) && decide (j ≤ k) && decide (k < l)
    | _ => false).map fun u => match u with
    | [j, l] => [i, j, k, l]
    | _ => []
  | _ => []
theorem fine_tD (t : List Nat) : Fine 1 (tD t) := fine_tup (n := 0) fun d hd => by obtain ⟨n, _, rfl⟩ := List.mem_map.mp hd; exact fine_int _
theorem good_tD (t : List Nat) : Good 1 (tD t) := good_tup (n := 0) fun d hd => by obtain ⟨n, _, rfl⟩ := List.mem_map.mp hd; exact good_int _
theorem tD_inj {t u : List Nat} (h : tD t = tD u) : t = u := by
  unfold tD at h
  injection h with h
  have : ∀ a b : List Nat, a.map (fun i : Nat => PyData.int (i : Int)) = b.map (fun i : Nat => PyData.int (i : Int)) → a = b := by
    intro a
    induction a with
    | nil => intro b h; cases b with
      | nil => rfl
      | cons => cases h
    | cons x xs ih =>
      intro b h
      cases b with
      | nil => cases h
      | cons y ys =>
        rw [List.map_cons, List.map_cons] at h
        injection h with h1 h2
        injection h1 with h1
        rw [ih ys h2, Int.ofNat.inj h1]
  exact this _ _ h
/-- the turnings that may be, in their order -/
def leT (a b : List Nat) : Bool := leD (tD a) (tD b)
def mb (ps : List Int) : List (List Nat) := (pairs ps ps.length ++ (pairs ps ps.length).flatMap (fours ps)).mergeSort leT
end Lw

set_option maxHeartbeats 4000000
namespace Lw
open PySem Fu
local macro_rules | `(tactic| walk_at "e1") => `(tactic| first
  | with_reducible refine eo_seq ?_ | (with_reducible refine then_nx' ?_; refine ⟨?_, ?_, ?_⟩; rotate_left; · (try dsimp only [List.set, List.length_cons, List.length_nil, List.cons_append, List.nil_append, Nat.zero_add, Nat.reduceAdd]); exact rfl) | with_reducible refine then_rt ?_ | with_reducible refine eo_if ?_ | with_reducible refine eo_ret ?_ | with_reducible refine eo_set ?_ | with_reducible refine eo_asg ?_ | with_reducible refine eo_drop ?_ | with_reducible refine eo_nx ?_ | with_reducible refine eo_par ?_ | with_reducible refine eo_own ?_ | with_reducible refine eo_retN ?_ | with_reducible refine eo_for ?_ | with_reducible refine eo_retO ?_
  | with_reducible refine ev_c ?_ | (with_reducible refine ev_var ?_; refine ⟨_, rfl, ?_⟩) | with_reducible refine ev_bin ?_ | with_reducible refine ev_un ?_ | with_reducible refine ev_nil ?_ | with_reducible refine ev_cons ?_
  | with_reducible refine ev_tup ?_ | with_reducible refine ev_lst ?_ | with_reducible refine ev_call ?_ | with_reducible refine ev_callF ?_ | with_reducible refine ev_isi ?_ | with_reducible refine ev_isi2 ?_ | with_reducible refine ev_andV ?_ | with_reducible refine ev_orV ?_ | with_reducible refine ev_notV ?_
  | with_reducible refine ev_B ?_ | with_reducible refine ev_and ?_ | with_reducible refine ev_or ?_ | with_reducible refine ev_not ?_ | with_reducible refine ev_yes ?_ | with_reducible refine ev_if ?_ | with_reducible refine ev_no ?_ | with_reducible refine ev_so ?_ | with_reducible refine ev_sl ?_ | with_reducible refine ev_items ?_
  | (with_reducible refine ev_ixO ?_; refine ⟨_, _, rfl, rfl, ?_⟩) | (with_reducible refine ev_varO ?_; refine ⟨_, _, rfl, rfl, ?_⟩) | (with_reducible refine ev_lenO ?_; refine ⟨_, _, rfl, rfl, ?_⟩) | (with_reducible refine ev_scrSl ?_; refine ⟨_, rfl, ?_⟩) | (with_reducible refine ev_scrLen ?_; refine ⟨_, rfl, ?_⟩) | (with_reducible refine ev_callScr ?_; refine ⟨_, rfl, ?_⟩) | (with_reducible refine ev_OL ?_; refine ⟨_, _, rfl, rfl, ?_⟩) | with_reducible refine ev_OR ?_ | with_reducible refine ev_rep ?_ | with_reducible refine ev_listRng1 ?_ | with_reducible refine eo_setO ?_
  | with_reducible refine es_name ?_ | with_reducible refine es_tup2 ?_ | with_reducible refine es_tup3 ?_
  | with_reducible refine ed_addI ?_ | with_reducible refine ed_subI ?_ | with_reducible refine ed_cmp ?_ | with_reducible refine ed_eqI ?_ | with_reducible refine ed_neI ?_ | with_reducible refine ed_slT ?_ | with_reducible refine ed_slL ?_ | with_reducible refine ed_lenT ?_ | with_reducible refine ed_lenL ?_ | with_reducible refine ed_lenS ?_ | with_reducible refine ed_inS ?_ | with_reducible refine ed_itT ?_ | with_reducible refine ed_itL ?_ | with_reducible refine ed_tupL ?_ | with_reducible refine ed_tupT ?_ | with_reducible refine ed_listL ?_ | with_reducible refine ed_listT ?_ | with_reducible refine ed_neg ?_ | with_reducible refine ed_max ?_ | with_reducible refine ed_min ?_ | with_reducible refine ed_intB ?_
  | with_reducible refine ev_rng1 ?_ | with_reducible refine ev_rng2 ?_)
local macro_rules | `(tactic| walk_at "sd") => `(tactic| first | rfl | assumption | (simp only [decide_eq_true_eq, decide_eq_false_iff_not, Bool.not_eq_true', Bool.not_eq_false', Bool.and_eq_true, Bool.or_eq_true, List.length_map, List.length_cons, List.length_nil, List.length_append, List.length_range] at *; omega))
local macro_rules | `(tactic| walk_at "e2") => `(tactic| first
  | walk_at "e1" | with_reducible refine ⟨_, rfl, ?_⟩ | with_reducible refine ⟨_, _, rfl, ?_⟩
  | with_reducible refine And.intro (Eq.refl (List.length _)) ?_ | with_reducible refine And.intro (Nat.le_of_ble_eq_true (n := List.length _) rfl) ?_
  | with_reducible refine And.intro (Eq.refl (_ : Sx)) (?_ : Ed _ _)
  | ((with_reducible refine And.intro ?_ (And.intro ?_ (?_ : Ev _ _))); (· rfl); (· rfl))
  | ((with_reducible refine ed_ixT ?_ ?_ ?_); (· decide); (· rfl)) | ((with_reducible refine ed_ixL ?_ ?_ ?_); (· decide); (· rfl)) | ((with_reducible refine ed_at ?_ ?_ ?_); (· decide); (· rfl))
  | ((with_reducible refine ed_modI ?_ ?_); (· first | decide | omega))
  | with_reducible exact gives_nx | ((with_reducible refine gives_rt ?_); (· rfl)) | ((with_reducible refine And.intro ?_ ?_); (· exact rfl); (· with_reducible exact Eq.refl (_ : Sx))))
local macro_rules | `(tactic| walk_at "e") => `(tactic| repeat walk_at "e2")
/-- begin a def's spec -/
local macro_rules | `(tactic| walk_at "i") => `(tactic| simp only [initS, List.map_cons, List.map_nil, List.length_cons, List.length_nil, Nat.reduceAdd, Nat.reduceSub, List.replicate, List.cons_append, List.nil_append])
/-- a known truth decides -/
local macro_rules | `(tactic| walk_at "t") => `(tactic| first | ((with_reducible refine split_t ?_ ?_); (· walk_at "sd")) | ((with_reducible refine split_t' ?_ ?_); (· walk_at "sd")))
local macro_rules | `(tactic| walk_at "f") => `(tactic| first | ((with_reducible refine split_f ?_ ?_); (· walk_at "sd")) | ((with_reducible refine split_f' ?_ ?_); (· walk_at "sd")))
/-- all that is seen in a look -/
local macro_rules | `(tactic| walk_at "v") => `(tactic| (rw [sealAll_mk (by (simp only [List.set_cons_zero, List.set_cons_succ, List.map_cons, List.map_nil, sealS_none, sealS_dat, sealS_scr, sealS_own, List.getElem?_cons_zero, List.getElem?_cons_succ, sealC_lst]; rfl)) (by (simp only [List.set_cons_zero, List.set_cons_succ, List.map_cons, List.map_nil]; rfl))]))
/-! ### what a turning does to a list -/
end Lw

set_option maxHeartbeats 4000000
namespace Lw
open PySem Fu
local macro_rules | `(tactic| walk_at "e1") => `(tactic| first
  | with_reducible refine eo_seq ?_ | (with_reducible refine then_nx' ?_; refine ⟨?_, ?_, ?_⟩; rotate_left; · (try dsimp only [List.set, List.length_cons, List.length_nil, List.cons_append, List.nil_append, Nat.zero_add, Nat.reduceAdd]); exact rfl) | with_reducible refine then_rt ?_ | with_reducible refine eo_if ?_ | with_reducible refine eo_ret ?_ | with_reducible refine eo_set ?_ | with_reducible refine eo_asg ?_ | with_reducible refine eo_drop ?_ | with_reducible refine eo_nx ?_ | with_reducible refine eo_par ?_ | with_reducible refine eo_own ?_ | with_reducible refine eo_retN ?_ | with_reducible refine eo_for ?_ | with_reducible refine eo_retO ?_
  | with_reducible refine ev_c ?_ | (with_reducible refine ev_var ?_; refine ⟨_, rfl, ?_⟩) | with_reducible refine ev_bin ?_ | with_reducible refine ev_un ?_ | with_reducible refine ev_nil ?_ | with_reducible refine ev_cons ?_
  | with_reducible refine ev_tup ?_ | with_reducible refine ev_lst ?_ | with_reducible refine ev_call ?_ | with_reducible refine ev_callF ?_ | with_reducible refine ev_isi ?_ | with_reducible refine ev_isi2 ?_ | with_reducible refine ev_andV ?_ | with_reducible refine ev_orV ?_ | with_reducible refine ev_notV ?_
  | with_reducible refine ev_B ?_ | with_reducible refine ev_and ?_ | with_reducible refine ev_or ?_ | with_reducible refine ev_not ?_ | with_reducible refine ev_yes ?_ | with_reducible refine ev_if ?_ | with_reducible refine ev_no ?_ | with_reducible refine ev_so ?_ | with_reducible refine ev_sl ?_ | with_reducible refine ev_items ?_
  | (with_reducible refine ev_ixO ?_; refine ⟨_, _, rfl, rfl, ?_⟩) | (with_reducible refine ev_varO ?_; refine ⟨_, _, rfl, rfl, ?_⟩) | (with_reducible refine ev_lenO ?_; refine ⟨_, _, rfl, rfl, ?_⟩) | (with_reducible refine ev_scrSl ?_; refine ⟨_, rfl, ?_⟩) | (with_reducible refine ev_scrLen ?_; refine ⟨_, rfl, ?_⟩) | (with_reducible refine ev_callScr ?_; refine ⟨_, rfl, ?_⟩) | (with_reducible refine ev_OL ?_; refine ⟨_, _, rfl, rfl, ?_⟩) | with_reducible refine ev_OR ?_ | with_reducible refine ev_rep ?_ | with_reducible refine ev_listRng1 ?_ | with_reducible refine eo_setO ?_
  | with_reducible refine es_name ?_ | with_reducible refine es_tup2 ?_ | with_reducible refine es_tup3 ?_
  | with_reducible refine ed_addI ?_ | with_reducible refine ed_subI ?_ | with_reducible refine ed_cmp ?_ | with_reducible refine ed_eqI ?_ | with_reducible refine ed_neI ?_ | with_reducible refine ed_slT ?_ | with_reducible refine ed_slL ?_ | with_reducible refine ed_lenT ?_ | with_reducible refine ed_lenL ?_ | with_reducible refine ed_lenS ?_ | with_reducible refine ed_inS ?_ | with_reducible refine ed_itT ?_ | with_reducible refine ed_itL ?_ | with_reducible refine ed_tupL ?_ | with_reducible refine ed_tupT ?_ | with_reducible refine ed_listL ?_ | with_reducible refine ed_listT ?_ | with_reducible refine ed_neg ?_ | with_reducible refine ed_max ?_ | with_reducible refine ed_min ?_ | with_reducible refine ed_intB ?_
  | with_reducible refine ev_rng1 ?_ | with_reducible refine ev_rng2 ?_)
local macro_rules | `(tactic| walk_at "sd") => `(tactic| first | rfl | assumption | (simp only [decide_eq_true_eq, decide_eq_false_iff_not, Bool.not_eq_true', Bool.not_eq_false', Bool.and_eq_true, Bool.or_eq_true, List.length_map, List.length_cons, List.length_nil, List.length_append, List.length_range] at *; omega))
local macro_rules | `(tactic| walk_at "e2") => `(tactic| first
  | walk_at "e1" | with_reducible refine ⟨_, rfl, ?_⟩ | with_reducible refine ⟨_, _, rfl, ?_⟩
  | with_reducible refine And.intro (Eq.refl (List.length _)) ?_ | with_reducible refine And.intro (Nat.le_of_ble_eq_true (n := List.length _) rfl) ?_
  | with_reducible refine And.intro (Eq.refl (_ : Sx)) (?_ : Ed _ _)
  | ((with_reducible refine And.intro ?_ (And.intro ?_ (?_ : Ev _ _))); (· rfl); (· rfl))
  | ((with_reducible refine ed_ixT ?_ ?_ ?_); (· decide); (· rfl)) | ((with_reducible refine ed_ixL ?_ ?_ ?_); (· decide); (· rfl)) | ((with_reducible refine ed_at ?_ ?_ ?_); (· decide); (· rfl))
  | ((with_reducible refine ed_modI ?_ ?_); (· first | decide | omega))
  | with_reducible exact gives_nx | ((with_reducible refine gives_rt ?_); (· rfl)) | ((with_reducible refine And.intro ?_ ?_); (· exact rfl); (· with_reducible exact Eq.refl (_ : Sx))))
local macro_rules | `(tactic| walk_at "e") => `(tactic| repeat walk_at "e2")
/-- begin a def's spec -/
local macro_rules | `(tactic| walk_at "i") => `(tactic| simp only [initS, List.map_cons, List.map_nil, List.length_cons, List.length_nil, Nat.reduceAdd, Nat.reduceSub, List.replicate, List.cons_append, List.nil_append])
/-- a known truth decides -/
local macro_rules | `(tactic| walk_at "t") => `(tactic| first | ((with_reducible refine split_t ?_ ?_); (· walk_at "sd")) | ((with_reducible refine split_t' ?_ ?_); (· walk_at "sd")))
local macro_rules | `(tactic| walk_at "f") => `(tactic| first | ((with_reducible refine split_f ?_ ?_); (· walk_at "sd")) | ((with_reducible refine split_f' ?_ ?_); (· walk_at "sd")))
/-- all that is seen in a look -/
local macro_rules | `(tactic| walk_at "v") => `(tactic| (rw [sealAll_mk (by (simp only [List.set_cons_zero, List.set_cons_succ, List.map_cons, List.map_nil, sealS_none, sealS_dat, sealS_scr, sealS_own, List.getElem?_cons_zero, List.getElem?_cons_succ, sealC_lst]; rfl)) (by (simp only [List.set_cons_zero, List.set_cons_succ, List.map_cons, List.map_nil]; rfl))]))
theorem eqv_tD (t u : List Nat) : (tD t).eqv (tD u) = decide (t = u) := by
  rw [Bool.eq_iff_iff, decide_eq_true_eq, eqv_plain _ _ (good_tD t).plain (good_tD u).plain]
  exact ⟨tD_inj, fun h => h ▸ rfl⟩
theorem ed_notInT {ts : List (List Nat)} {t : List Nat} {Q : D → Prop} (q : Q (.bool (!decide (t ∈ ts)))) : Ed (dNotIn (tD t) (.list (ts.map tD))) Q := by
  refine ⟨_, ?_, q⟩
  have h1 := (fine_tD t).shaped
  have h2 := (fine_list (n := 1) (ds := ts.map tD) fun d hd => by obtain ⟨u, _, rfl⟩ := List.mem_map.mp hd; exact fine_tD u).shaped
  unfold tD at h1 ⊢
  dsimp only [dNotIn]
  rw [if_pos ⟨h1, h2⟩]
  congr 3
  rw [Bool.eq_iff_iff, List.any_map, List.any_eq_true, decide_eq_true_eq]
  constructor
  · rintro ⟨u, hu, e⟩
    have e : (tD u).eqv (tD t) = true := e
    rw [eqv_tD, decide_eq_true_eq] at e
    exact e ▸ hu
  · intro hu
    refine ⟨t, hu, ?_⟩
    show (tD t).eqv (tD t) = true
    rw [eqv_tD, decide_eq_true rfl]
end Lw

set_option maxHeartbeats 4000000
namespace Lw
open PySem Fu
local macro_rules | `(tactic| walk_at "e1") => `(tactic| first
  | with_reducible refine eo_seq ?_ | (with_reducible refine then_nx' ?_; refine ⟨?_, ?_, ?_⟩; rotate_left; · (try dsimp only [List.set, List.length_cons, List.length_nil, List.cons_append, List.nil_append, Nat.zero_add, Nat.reduceAdd]); exact rfl) | with_reducible refine then_rt ?_ | with_reducible refine eo_if ?_ | with_reducible refine eo_ret ?_ | with_reducible refine eo_set ?_ | with_reducible refine eo_asg ?_ | with_reducible refine eo_drop ?_ | with_reducible refine eo_nx ?_ | with_reducible refine eo_par ?_ | with_reducible refine eo_own ?_ | with_reducible refine eo_retN ?_ | with_reducible refine eo_for ?_ | with_reducible refine eo_retO ?_
  | with_reducible refine ev_c ?_ | (with_reducible refine ev_var ?_; refine ⟨_, rfl, ?_⟩) | with_reducible refine ev_bin ?_ | with_reducible refine ev_un ?_ | with_reducible refine ev_nil ?_ | with_reducible refine ev_cons ?_
  | with_reducible refine ev_tup ?_ | with_reducible refine ev_lst ?_ | with_reducible refine ev_call ?_ | with_reducible refine ev_callF ?_ | with_reducible refine ev_isi ?_ | with_reducible refine ev_isi2 ?_ | with_reducible refine ev_andV ?_ | with_reducible refine ev_orV ?_ | with_reducible refine ev_notV ?_
  | with_reducible refine ev_B ?_ | with_reducible refine ev_and ?_ | with_reducible refine ev_or ?_ | with_reducible refine ev_not ?_ | with_reducible refine ev_yes ?_ | with_reducible refine ev_if ?_ | with_reducible refine ev_no ?_ | with_reducible refine ev_so ?_ | with_reducible refine ev_sl ?_ | with_reducible refine ev_items ?_
  | (with_reducible refine ev_ixO ?_; refine ⟨_, _, rfl, rfl, ?_⟩) | (with_reducible refine ev_varO ?_; refine ⟨_, _, rfl, rfl, ?_⟩) | (with_reducible refine ev_lenO ?_; refine ⟨_, _, rfl, rfl, ?_⟩) | (with_reducible refine ev_scrSl ?_; refine ⟨_, rfl, ?_⟩) | (with_reducible refine ev_scrLen ?_; refine ⟨_, rfl, ?_⟩) | (with_reducible refine ev_callScr ?_; refine ⟨_, rfl, ?_⟩) | (with_reducible refine ev_OL ?_; refine ⟨_, _, rfl, rfl, ?_⟩) | with_reducible refine ev_OR ?_ | with_reducible refine ev_rep ?_ | with_reducible refine ev_listRng1 ?_ | with_reducible refine eo_setO ?_
  | with_reducible refine es_name ?_ | with_reducible refine es_tup2 ?_ | with_reducible refine es_tup3 ?_
  | with_reducible refine ed_addI ?_ | with_reducible refine ed_subI ?_ | with_reducible refine ed_cmp ?_ | with_reducible refine ed_eqI ?_ | with_reducible refine ed_neI ?_ | with_reducible refine ed_slT ?_ | with_reducible refine ed_slL ?_ | with_reducible refine ed_lenT ?_ | with_reducible refine ed_lenL ?_ | with_reducible refine ed_lenS ?_ | with_reducible refine ed_inS ?_ | with_reducible refine ed_itT ?_ | with_reducible refine ed_itL ?_ | with_reducible refine ed_tupL ?_ | with_reducible refine ed_tupT ?_ | with_reducible refine ed_listL ?_ | with_reducible refine ed_listT ?_ | with_reducible refine ed_neg ?_ | with_reducible refine ed_max ?_ | with_reducible refine ed_min ?_ | with_reducible refine ed_intB ?_
  | with_reducible refine ev_rng1 ?_ | with_reducible refine ev_rng2 ?_)
local macro_rules | `(tactic| walk_at "sd") => `(tactic| first | rfl | assumption | (simp only [decide_eq_true_eq, decide_eq_false_iff_not, Bool.not_eq_true', Bool.not_eq_false', Bool.and_eq_true, Bool.or_eq_true, List.length_map, List.length_cons, List.length_nil, List.length_append, List.length_range] at *; omega))
local macro_rules | `(tactic| walk_at "e2") => `(tactic| first
  | walk_at "e1" | with_reducible refine ⟨_, rfl, ?_⟩ | with_reducible refine ⟨_, _, rfl, ?_⟩
  | with_reducible refine And.intro (Eq.refl (List.length _)) ?_ | with_reducible refine And.intro (Nat.le_of_ble_eq_true (n := List.length _) rfl) ?_
  | with_reducible refine And.intro (Eq.refl (_ : Sx)) (?_ : Ed _ _)
  | ((with_reducible refine And.intro ?_ (And.intro ?_ (?_ : Ev _ _))); (· rfl); (· rfl))
  | ((with_reducible refine ed_ixT ?_ ?_ ?_); (· decide); (· rfl)) | ((with_reducible refine ed_ixL ?_ ?_ ?_); (· decide); (· rfl)) | ((with_reducible refine ed_at ?_ ?_ ?_); (· decide); (· rfl))
  | ((with_reducible refine ed_modI ?_ ?_); (· first | decide | omega))
  | with_reducible exact gives_nx | ((with_reducible refine gives_rt ?_); (· rfl)) | ((with_reducible refine And.intro ?_ ?_); (· exact rfl); (· with_reducible exact Eq.refl (_ : Sx))))
local macro_rules | `(tactic| walk_at "e") => `(tactic| repeat walk_at "e2")
/-- begin a def's spec -/
local macro_rules | `(tactic| walk_at "i") => `(tactic| simp only [initS, List.map_cons, List.map_nil, List.length_cons, List.length_nil, Nat.reduceAdd, Nat.reduceSub, List.replicate, List.cons_append, List.nil_append])
/-- a known truth decides -/
local macro_rules | `(tactic| walk_at "t") => `(tactic| first | ((with_reducible refine split_t ?_ ?_); (· walk_at "sd")) | ((with_reducible refine split_t' ?_ ?_); (· walk_at "sd")))
local macro_rules | `(tactic| walk_at "f") => `(tactic| first | ((with_reducible refine split_f ?_ ?_); (· walk_at "sd")) | ((with_reducible refine split_f' ?_ ?_); (· walk_at "sd")))
/-- all that is seen in a look -/
local macro_rules | `(tactic| walk_at "v") => `(tactic| (rw [sealAll_mk (by (simp only [List.set_cons_zero, List.set_cons_succ, List.map_cons, List.map_nil, sealS_none, sealS_dat, sealS_scr, sealS_own, List.getElem?_cons_zero, List.getElem?_cons_succ, sealC_lst]; rfl)) (by (simp only [List.set_cons_zero, List.set_cons_succ, List.map_cons, List.map_nil]; rfl))]))
theorem toks_int (a : Int) : PySem.W.keyToks (.int a) = [.inl a] := by simp [PySem.W.keyToks]
theorem dataLt_int (a b : Int) : PySem.W.dataLt (.int a) (.int b) = decide (a < b) := by
  unfold PySem.W.dataLt
  rw [toks_int, toks_int]
  by_cases h : a = b
  · subst h
    rw [PyProof.Rows.lex_self]
    simp
    rfl
  · rw [PyProof.Rows.lex_diff (by simpa using h)]
    rfl
theorem leD_int (a b : Int) : leD (.int a) (.int b) = decide (a ≤ b) := by
  have h : leD (.int a) (.int b) = !PySem.W.dataLt (.int b) (.int a) := rfl
  rw [h, dataLt_int, Bool.eq_iff_iff]
  simp
theorem sorted_range {ns : List Int} {n : Nat} (h : ns.Perm ((List.range n).map fun i : Nat => (i : Int))) : (ns.map PyData.int).mergeSort leD = rng 0 n := by
  have e1 : rng 0 n = ((List.range n).map fun i : Nat => (i : Int)).map PyData.int := by rw [rng0, List.map_map]; rfl
  refine List.Perm.eq_of_pairwise (le := fun a b => leD a b = true) ?_ (List.pairwise_mergeSort ?_ ?_ _) ?_ ((List.mergeSort_perm _ _).trans (by rw [e1]; exact h.map _))
  · intro a b ha hb h1 h2
    have ha := (List.mergeSort_perm _ _).mem_iff.mp ha
    obtain ⟨i, _, rfl⟩ := List.mem_map.mp ha
    rw [e1] at hb
    obtain ⟨j, _, rfl⟩ := List.mem_map.mp hb
    rw [leD_int, decide_eq_true_eq] at h1 h2
    rw [Int.le_antisymm h1 h2]
  · exact fun a b c => (PySem.W.sortLe_total _ _ _).trans a b c
  · exact fun a b => by rw [Bool.or_eq_true]; exact (PySem.W.sortLe_total _ _ _).total a b
  · rw [e1, List.pairwise_map, List.pairwise_map]
    refine List.pairwise_lt_range.imp fun {i j} hij => ?_
    rw [leD_int, decide_eq_true_eq]
    omega
theorem sortOk_ints (ns : List Int) : sortOk (ns.map PyData.int) = true := by
  unfold sortOk
  rw [Bool.and_eq_true, Bool.and_eq_true, Bool.or_eq_true]
  refine ⟨⟨?_, .inr ?_⟩, ?_⟩
  · rw [List.all_eq_true]
    intro d hd
    rw [List.all_eq_true]
    intro e he
    obtain ⟨a, _, rfl⟩ := List.mem_map.mp hd
    obtain ⟨b, _, rfl⟩ := List.mem_map.mp he
    simp [PySem.W.alike]
  · rw [List.all_eq_true]
    intro d hd
    obtain ⟨a, ha, rfl⟩ := List.mem_map.mp hd
    rfl
  · rw [List.all_eq_true]
    intro d hd
    obtain ⟨a, ha, rfl⟩ := List.mem_map.mp hd
    rw [Bool.and_eq_true]
    exact ⟨decide_eq_true (by simp [PyData.depth]), (fine_int a).1⟩
end Lw

set_option maxHeartbeats 4000000
namespace Lw
open PySem Fu
local macro_rules | `(tactic| walk_at "e1") => `(tactic| first
  | with_reducible refine eo_seq ?_ | (with_reducible refine then_nx' ?_; refine ⟨?_, ?_, ?_⟩; rotate_left; · (try dsimp only [List.set, List.length_cons, List.length_nil, List.cons_append, List.nil_append, Nat.zero_add, Nat.reduceAdd]); exact rfl) | with_reducible refine then_rt ?_ | with_reducible refine eo_if ?_ | with_reducible refine eo_ret ?_ | with_reducible refine eo_set ?_ | with_reducible refine eo_asg ?_ | with_reducible refine eo_drop ?_ | with_reducible refine eo_nx ?_ | with_reducible refine eo_par ?_ | with_reducible refine eo_own ?_ | with_reducible refine eo_retN ?_ | with_reducible refine eo_for ?_ | with_reducible refine eo_retO ?_
  | with_reducible refine ev_c ?_ | (with_reducible refine ev_var ?_; refine ⟨_, rfl, ?_⟩) | with_reducible refine ev_bin ?_ | with_reducible refine ev_un ?_ | with_reducible refine ev_nil ?_ | with_reducible refine ev_cons ?_
  | with_reducible refine ev_tup ?_ | with_reducible refine ev_lst ?_ | with_reducible refine ev_call ?_ | with_reducible refine ev_callF ?_ | with_reducible refine ev_isi ?_ | with_reducible refine ev_isi2 ?_ | with_reducible refine ev_andV ?_ | with_reducible refine ev_orV ?_ | with_reducible refine ev_notV ?_
  | with_reducible refine ev_B ?_ | with_reducible refine ev_and ?_ | with_reducible refine ev_or ?_ | with_reducible refine ev_not ?_ | with_reducible refine ev_yes ?_ | with_reducible refine ev_if ?_ | with_reducible refine ev_no ?_ | with_reducible refine ev_so ?_ | with_reducible refine ev_sl ?_ | with_reducible refine ev_items ?_
  | (with_reducible refine ev_ixO ?_; refine ⟨_, _, rfl, rfl, ?_⟩) | (with_reducible refine ev_varO ?_; refine ⟨_, _, rfl, rfl, ?_⟩) | (with_reducible refine ev_lenO ?_; refine ⟨_, _, rfl, rfl, ?_⟩) | (with_reducible refine ev_scrSl ?_; refine ⟨_, rfl, ?_⟩) | (with_reducible refine ev_scrLen ?_; refine ⟨_, rfl, ?_⟩) | (with_reducible refine ev_callScr ?_; refine ⟨_, rfl, ?_⟩) | (with_reducible refine ev_OL ?_; refine ⟨_, _, rfl, rfl, ?_⟩) | with_reducible refine ev_OR ?_ | with_reducible refine ev_rep ?_ | with_reducible refine ev_listRng1 ?_ | with_reducible refine eo_setO ?_
  | with_reducible refine es_name ?_ | with_reducible refine es_tup2 ?_ | with_reducible refine es_tup3 ?_
  | with_reducible refine ed_addI ?_ | with_reducible refine ed_subI ?_ | with_reducible refine ed_cmp ?_ | with_reducible refine ed_eqI ?_ | with_reducible refine ed_neI ?_ | with_reducible refine ed_slT ?_ | with_reducible refine ed_slL ?_ | with_reducible refine ed_lenT ?_ | with_reducible refine ed_lenL ?_ | with_reducible refine ed_lenS ?_ | with_reducible refine ed_inS ?_ | with_reducible refine ed_itT ?_ | with_reducible refine ed_itL ?_ | with_reducible refine ed_tupL ?_ | with_reducible refine ed_tupT ?_ | with_reducible refine ed_listL ?_ | with_reducible refine ed_listT ?_ | with_reducible refine ed_neg ?_ | with_reducible refine ed_max ?_ | with_reducible refine ed_min ?_ | with_reducible refine ed_intB ?_
  | with_reducible refine ev_rng1 ?_ | with_reducible refine ev_rng2 ?_)
local macro_rules | `(tactic| walk_at "sd") => `(tactic| first | rfl | assumption | (simp only [decide_eq_true_eq, decide_eq_false_iff_not, Bool.not_eq_true', Bool.not_eq_false', Bool.and_eq_true, Bool.or_eq_true, List.length_map, List.length_cons, List.length_nil, List.length_append, List.length_range] at *; omega))
local macro_rules | `(tactic| walk_at "e2") => `(tactic| first
  | walk_at "e1" | with_reducible refine ⟨_, rfl, ?_⟩ | with_reducible refine ⟨_, _, rfl, ?_⟩
  | with_reducible refine And.intro (Eq.refl (List.length _)) ?_ | with_reducible refine And.intro (Nat.le_of_ble_eq_true (n := List.length _) rfl) ?_
  | with_reducible refine And.intro (Eq.refl (_ : Sx)) (?_ : Ed _ _)
  | ((with_reducible refine And.intro ?_ (And.intro ?_ (?_ : Ev _ _))); (· rfl); (· rfl))
  | ((with_reducible refine ed_ixT ?_ ?_ ?_); (· decide); (· rfl)) | ((with_reducible refine ed_ixL ?_ ?_ ?_); (· decide); (· rfl)) | ((with_reducible refine ed_at ?_ ?_ ?_); (· decide); (· rfl))
  | ((with_reducible refine ed_modI ?_ ?_); (· first | decide | omega))
  | with_reducible exact gives_nx | ((with_reducible refine gives_rt ?_); (· rfl)) | ((with_reducible refine And.intro ?_ ?_); (· exact rfl); (· with_reducible exact Eq.refl (_ : Sx))))
local macro_rules | `(tactic| walk_at "e") => `(tactic| repeat walk_at "e2")
/-- begin a def's spec -/
local macro_rules | `(tactic| walk_at "i") => `(tactic| simp only [initS, List.map_cons, List.map_nil, List.length_cons, List.length_nil, Nat.reduceAdd, Nat.reduceSub, List.replicate, List.cons_append, List.nil_append])
/-- a known truth decides -/
local macro_rules | `(tactic| walk_at "t") => `(tactic| first | ((with_reducible refine split_t ?_ ?_); (· walk_at "sd")) | ((with_reducible refine split_t' ?_ ?_); (· walk_at "sd")))
local macro_rules | `(tactic| walk_at "f") => `(tactic| first | ((with_reducible refine split_f ?_ ?_); (· walk_at "sd")) | ((with_reducible refine split_f' ?_ ?_); (· walk_at "sd")))
/-- all that is seen in a look -/
local macro_rules | `(tactic| walk_at "v") => `(tactic| (rw [sealAll_mk (by (simp only [List.set_cons_zero, List.set_cons_succ, List.map_cons, List.map_nil, sealS_none, sealS_dat, sealS_scr, sealS_own, List.getElem?_cons_zero, List.getElem?_cons_succ, sealC_lst]; rfl)) (by (simp only [List.set_cons_zero, List.set_cons_succ, List.map_cons, List.map_nil]; rfl))]))
open Pt Gr
theorem eo_while {gt : M Bool} {body : Sx → Option Out} {Z : Out → Prop} (I : Nat → Sx → Prop) (hs : ∀ m S, I m S → Ev (gt S) fun b S1 => (b = true → Eo (body S1) fun o => ∃ S2 m2, o = .nx S2 ∧ m2 < m ∧ I m2 S2) ∧ (b = false → Z (.nx S1))) : ∀ (n m : Nat) (S : Sx), m < n → I m S → Eo (gWhile gt body n S) Z
  | 0, m, S, h, _ => by omega
  | n + 1, m, S, h, hI => by
    obtain ⟨b, S1, e, h1, h2⟩ := hs m S hI
    cases b with
    | true =>
      obtain ⟨o, e2, S2, m2, rfl, hm, hI2⟩ := h1 rfl
      obtain ⟨o2, e3, q⟩ := eo_while I hs n m2 S2 (by omega) hI2
      exact ⟨o2, by rw [gWhile]; simp only [e, e2, Option.bind_some, if_true]; exact e3, q⟩
    | false => exact ⟨_, by rw [gWhile]; simp only [e, Option.bind_some]; rfl, h2 rfl⟩
end Lw

set_option maxHeartbeats 4000000
namespace Lw
open PySem Fu
local macro_rules | `(tactic| walk_at "e1") => `(tactic| first
  | with_reducible refine eo_seq ?_ | (with_reducible refine then_nx' ?_; refine ⟨?_, ?_, ?_⟩; rotate_left; · (try dsimp only [List.set, List.length_cons, List.length_nil, List.cons_append, List.nil_append, Nat.zero_add, Nat.reduceAdd]); exact rfl) | with_reducible refine then_rt ?_ | with_reducible refine eo_if ?_ | with_reducible refine eo_ret ?_ | with_reducible refine eo_set ?_ | with_reducible refine eo_asg ?_ | with_reducible refine eo_drop ?_ | with_reducible refine eo_nx ?_ | with_reducible refine eo_par ?_ | with_reducible refine eo_own ?_ | with_reducible refine eo_retN ?_ | with_reducible refine eo_for ?_ | with_reducible refine eo_retO ?_
  | with_reducible refine ev_c ?_ | (with_reducible refine ev_var ?_; refine ⟨_, rfl, ?_⟩) | with_reducible refine ev_bin ?_ | with_reducible refine ev_un ?_ | with_reducible refine ev_nil ?_ | with_reducible refine ev_cons ?_
  | with_reducible refine ev_tup ?_ | with_reducible refine ev_lst ?_ | with_reducible refine ev_call ?_ | with_reducible refine ev_callF ?_ | with_reducible refine ev_isi ?_ | with_reducible refine ev_isi2 ?_ | with_reducible refine ev_andV ?_ | with_reducible refine ev_orV ?_ | with_reducible refine ev_notV ?_
  | with_reducible refine ev_B ?_ | with_reducible refine ev_and ?_ | with_reducible refine ev_or ?_ | with_reducible refine ev_not ?_ | with_reducible refine ev_yes ?_ | with_reducible refine ev_if ?_ | with_reducible refine ev_no ?_ | with_reducible refine ev_so ?_ | with_reducible refine ev_sl ?_ | with_reducible refine ev_items ?_
  | (with_reducible refine ev_ixO ?_; refine ⟨_, _, rfl, rfl, ?_⟩) | (with_reducible refine ev_varO ?_; refine ⟨_, _, rfl, rfl, ?_⟩) | (with_reducible refine ev_lenO ?_; refine ⟨_, _, rfl, rfl, ?_⟩) | (with_reducible refine ev_scrSl ?_; refine ⟨_, rfl, ?_⟩) | (with_reducible refine ev_scrLen ?_; refine ⟨_, rfl, ?_⟩) | (with_reducible refine ev_callScr ?_; refine ⟨_, rfl, ?_⟩) | (with_reducible refine ev_OL ?_; refine ⟨_, _, rfl, rfl, ?_⟩) | with_reducible refine ev_OR ?_ | with_reducible refine ev_rep ?_ | with_reducible refine ev_listRng1 ?_ | with_reducible refine eo_setO ?_
  | with_reducible refine es_name ?_ | with_reducible refine es_tup2 ?_ | with_reducible refine es_tup3 ?_
  | with_reducible refine ed_addI ?_ | with_reducible refine ed_subI ?_ | with_reducible refine ed_cmp ?_ | with_reducible refine ed_eqI ?_ | with_reducible refine ed_neI ?_ | with_reducible refine ed_slT ?_ | with_reducible refine ed_slL ?_ | with_reducible refine ed_lenT ?_ | with_reducible refine ed_lenL ?_ | with_reducible refine ed_lenS ?_ | with_reducible refine ed_inS ?_ | with_reducible refine ed_itT ?_ | with_reducible refine ed_itL ?_ | with_reducible refine ed_tupL ?_ | with_reducible refine ed_tupT ?_ | with_reducible refine ed_listL ?_ | with_reducible refine ed_listT ?_ | with_reducible refine ed_neg ?_ | with_reducible refine ed_max ?_ | with_reducible refine ed_min ?_ | with_reducible refine ed_intB ?_
  | with_reducible refine ev_rng1 ?_ | with_reducible refine ev_rng2 ?_)
local macro_rules | `(tactic| walk_at "sd") => `(tactic| first | rfl | assumption | (simp only [decide_eq_true_eq, decide_eq_false_iff_not, Bool.not_eq_true', Bool.not_eq_false', Bool.and_eq_true, Bool.or_eq_true, List.length_map, List.length_cons, List.length_nil, List.length_append, List.length_range] at *; omega))
local macro_rules | `(tactic| walk_at "e2") => `(tactic| first
  | walk_at "e1" | with_reducible refine ⟨_, rfl, ?_⟩ | with_reducible refine ⟨_, _, rfl, ?_⟩
  | with_reducible refine And.intro (Eq.refl (List.length _)) ?_ | with_reducible refine And.intro (Nat.le_of_ble_eq_true (n := List.length _) rfl) ?_
  | with_reducible refine And.intro (Eq.refl (_ : Sx)) (?_ : Ed _ _)
  | ((with_reducible refine And.intro ?_ (And.intro ?_ (?_ : Ev _ _))); (· rfl); (· rfl))
  | ((with_reducible refine ed_ixT ?_ ?_ ?_); (· decide); (· rfl)) | ((with_reducible refine ed_ixL ?_ ?_ ?_); (· decide); (· rfl)) | ((with_reducible refine ed_at ?_ ?_ ?_); (· decide); (· rfl))
  | ((with_reducible refine ed_modI ?_ ?_); (· first | decide | omega))
  | with_reducible exact gives_nx | ((with_reducible refine gives_rt ?_); (· rfl)) | ((with_reducible refine And.intro ?_ ?_); (· exact rfl); (· with_reducible exact Eq.refl (_ : Sx))))
local macro_rules | `(tactic| walk_at "e") => `(tactic| repeat walk_at "e2")
/-- begin a def's spec -/
local macro_rules | `(tactic| walk_at "i") => `(tactic| simp only [initS, List.map_cons, List.map_nil, List.length_cons, List.length_nil, Nat.reduceAdd, Nat.reduceSub, List.replicate, List.cons_append, List.nil_append])
/-- a known truth decides -/
local macro_rules | `(tactic| walk_at "t") => `(tactic| first | ((with_reducible refine split_t ?_ ?_); (· walk_at "sd")) | ((with_reducible refine split_t' ?_ ?_); (· walk_at "sd")))
local macro_rules | `(tactic| walk_at "f") => `(tactic| first | ((with_reducible refine split_f ?_ ?_); (· walk_at "sd")) | ((with_reducible refine split_f' ?_ ?_); (· walk_at "sd")))
/-- all that is seen in a look -/
local macro_rules | `(tactic| walk_at "v") => `(tactic| (rw [sealAll_mk (by (simp only [List.set_cons_zero, List.set_cons_succ, List.map_cons, List.map_nil, sealS_none, sealS_dat, sealS_scr, sealS_own, List.getElem?_cons_zero, List.getElem?_cons_succ, sealC_lst]; rfl)) (by (simp only [List.set_cons_zero, List.set_cons_succ, List.map_cons, List.map_nil]; rfl))]))
open Pt Gr
/-! #### the law's own wants -/
end Lw

set_option maxHeartbeats 4000000
namespace Lw
open PySem Fu
local macro_rules | `(tactic| walk_at "e1") => `(tactic| first
  | with_reducible refine eo_seq ?_ | (with_reducible refine then_nx' ?_; refine ⟨?_, ?_, ?_⟩; rotate_left; · (try dsimp only [List.set, List.length_cons, List.length_nil, List.cons_append, List.nil_append, Nat.zero_add, Nat.reduceAdd]); exact rfl) | with_reducible refine then_rt ?_ | with_reducible refine eo_if ?_ | with_reducible refine eo_ret ?_ | with_reducible refine eo_set ?_ | with_reducible refine eo_asg ?_ | with_reducible refine eo_drop ?_ | with_reducible refine eo_nx ?_ | with_reducible refine eo_par ?_ | with_reducible refine eo_own ?_ | with_reducible refine eo_retN ?_ | with_reducible refine eo_for ?_ | with_reducible refine eo_retO ?_
  | with_reducible refine ev_c ?_ | (with_reducible refine ev_var ?_; refine ⟨_, rfl, ?_⟩) | with_reducible refine ev_bin ?_ | with_reducible refine ev_un ?_ | with_reducible refine ev_nil ?_ | with_reducible refine ev_cons ?_
  | with_reducible refine ev_tup ?_ | with_reducible refine ev_lst ?_ | with_reducible refine ev_call ?_ | with_reducible refine ev_callF ?_ | with_reducible refine ev_isi ?_ | with_reducible refine ev_isi2 ?_ | with_reducible refine ev_andV ?_ | with_reducible refine ev_orV ?_ | with_reducible refine ev_notV ?_
  | with_reducible refine ev_B ?_ | with_reducible refine ev_and ?_ | with_reducible refine ev_or ?_ | with_reducible refine ev_not ?_ | with_reducible refine ev_yes ?_ | with_reducible refine ev_if ?_ | with_reducible refine ev_no ?_ | with_reducible refine ev_so ?_ | with_reducible refine ev_sl ?_ | with_reducible refine ev_items ?_
  | (with_reducible refine ev_ixO ?_; refine ⟨_, _, rfl, rfl, ?_⟩) | (with_reducible refine ev_varO ?_; refine ⟨_, _, rfl, rfl, ?_⟩) | (with_reducible refine ev_lenO ?_; refine ⟨_, _, rfl, rfl, ?_⟩) | (with_reducible refine ev_scrSl ?_; refine ⟨_, rfl, ?_⟩) | (with_reducible refine ev_scrLen ?_; refine ⟨_, rfl, ?_⟩) | (with_reducible refine ev_callScr ?_; refine ⟨_, rfl, ?_⟩) | (with_reducible refine ev_OL ?_; refine ⟨_, _, rfl, rfl, ?_⟩) | with_reducible refine ev_OR ?_ | with_reducible refine ev_rep ?_ | with_reducible refine ev_listRng1 ?_ | with_reducible refine eo_setO ?_
  | with_reducible refine es_name ?_ | with_reducible refine es_tup2 ?_ | with_reducible refine es_tup3 ?_
  | with_reducible refine ed_addI ?_ | with_reducible refine ed_subI ?_ | with_reducible refine ed_cmp ?_ | with_reducible refine ed_eqI ?_ | with_reducible refine ed_neI ?_ | with_reducible refine ed_slT ?_ | with_reducible refine ed_slL ?_ | with_reducible refine ed_lenT ?_ | with_reducible refine ed_lenL ?_ | with_reducible refine ed_lenS ?_ | with_reducible refine ed_inS ?_ | with_reducible refine ed_itT ?_ | with_reducible refine ed_itL ?_ | with_reducible refine ed_tupL ?_ | with_reducible refine ed_tupT ?_ | with_reducible refine ed_listL ?_ | with_reducible refine ed_listT ?_ | with_reducible refine ed_neg ?_ | with_reducible refine ed_max ?_ | with_reducible refine ed_min ?_ | with_reducible refine ed_intB ?_
  | with_reducible refine ev_rng1 ?_ | with_reducible refine ev_rng2 ?_)
local macro_rules | `(tactic| walk_at "sd") => `(tactic| first | rfl | assumption | (simp only [decide_eq_true_eq, decide_eq_false_iff_not, Bool.not_eq_true', Bool.not_eq_false', Bool.and_eq_true, Bool.or_eq_true, List.length_map, List.length_cons, List.length_nil, List.length_append, List.length_range] at *; omega))
local macro_rules | `(tactic| walk_at "e2") => `(tactic| first
  | walk_at "e1" | with_reducible refine ⟨_, rfl, ?_⟩ | with_reducible refine ⟨_, _, rfl, ?_⟩
  | with_reducible refine And.intro (Eq.refl (List.length _)) ?_ | with_reducible refine And.intro (Nat.le_of_ble_eq_true (n := List.length _) rfl) ?_
  | with_reducible refine And.intro (Eq.refl (_ : Sx)) (?_ : Ed _ _)
  | ((with_reducible refine And.intro ?_ (And.intro ?_ (?_ : Ev _ _))); (· rfl); (· rfl))
  | ((with_reducible refine ed_ixT ?_ ?_ ?_); (· decide); (· rfl)) | ((with_reducible refine ed_ixL ?_ ?_ ?_); (· decide); (· rfl)) | ((with_reducible refine ed_at ?_ ?_ ?_); (· decide); (· rfl))
  | ((with_reducible refine ed_modI ?_ ?_); (· first | decide | omega))
  | with_reducible exact gives_nx | ((with_reducible refine gives_rt ?_); (· rfl)) | ((with_reducible refine And.intro ?_ ?_); (· exact rfl); (· with_reducible exact Eq.refl (_ : Sx))))
local macro_rules | `(tactic| walk_at "e") => `(tactic| repeat walk_at "e2")
/-- begin a def's spec -/
local macro_rules | `(tactic| walk_at "i") => `(tactic| simp only [initS, List.map_cons, List.map_nil, List.length_cons, List.length_nil, Nat.reduceAdd, Nat.reduceSub, List.replicate, List.cons_append, List.nil_append])
/-- a known truth decides -/
local macro_rules | `(tactic| walk_at "t") => `(tactic| first | ((with_reducible refine split_t ?_ ?_); (· walk_at "sd")) | ((with_reducible refine split_t' ?_ ?_); (· walk_at "sd")))
local macro_rules | `(tactic| walk_at "f") => `(tactic| first | ((with_reducible refine split_f ?_ ?_); (· walk_at "sd")) | ((with_reducible refine split_f' ?_ ?_); (· walk_at "sd")))
/-- all that is seen in a look -/
local macro_rules | `(tactic| walk_at "v") => `(tactic| (rw [sealAll_mk (by (simp only [List.set_cons_zero, List.set_cons_succ, List.map_cons, List.map_nil, sealS_none, sealS_dat, sealS_scr, sealS_own, List.getElem?_cons_zero, List.getElem?_cons_succ, sealC_lst]; rfl)) (by (simp only [List.set_cons_zero, List.set_cons_succ, List.map_cons, List.map_nil]; rfl))]))
open Pt Gr
/-! #### fewest -/
/-! #### the law's own parts -/
end Lw

set_option maxHeartbeats 4000000
namespace Lw
open PySem Fu
local macro_rules | `(tactic| walk_at "e1") => `(tactic| first
  | with_reducible refine eo_seq ?_ | (with_reducible refine then_nx' ?_; refine ⟨?_, ?_, ?_⟩; rotate_left; · (try dsimp only [List.set, List.length_cons, List.length_nil, List.cons_append, List.nil_append, Nat.zero_add, Nat.reduceAdd]); exact rfl) | with_reducible refine then_rt ?_ | with_reducible refine eo_if ?_ | with_reducible refine eo_ret ?_ | with_reducible refine eo_set ?_ | with_reducible refine eo_asg ?_ | with_reducible refine eo_drop ?_ | with_reducible refine eo_nx ?_ | with_reducible refine eo_par ?_ | with_reducible refine eo_own ?_ | with_reducible refine eo_retN ?_ | with_reducible refine eo_for ?_ | with_reducible refine eo_retO ?_
  | with_reducible refine ev_c ?_ | (with_reducible refine ev_var ?_; refine ⟨_, rfl, ?_⟩) | with_reducible refine ev_bin ?_ | with_reducible refine ev_un ?_ | with_reducible refine ev_nil ?_ | with_reducible refine ev_cons ?_
  | with_reducible refine ev_tup ?_ | with_reducible refine ev_lst ?_ | with_reducible refine ev_call ?_ | with_reducible refine ev_callF ?_ | with_reducible refine ev_isi ?_ | with_reducible refine ev_isi2 ?_ | with_reducible refine ev_andV ?_ | with_reducible refine ev_orV ?_ | with_reducible refine ev_notV ?_
  | with_reducible refine ev_B ?_ | with_reducible refine ev_and ?_ | with_reducible refine ev_or ?_ | with_reducible refine ev_not ?_ | with_reducible refine ev_yes ?_ | with_reducible refine ev_if ?_ | with_reducible refine ev_no ?_ | with_reducible refine ev_so ?_ | with_reducible refine ev_sl ?_ | with_reducible refine ev_items ?_
  | (with_reducible refine ev_ixO ?_; refine ⟨_, _, rfl, rfl, ?_⟩) | (with_reducible refine ev_varO ?_; refine ⟨_, _, rfl, rfl, ?_⟩) | (with_reducible refine ev_lenO ?_; refine ⟨_, _, rfl, rfl, ?_⟩) | (with_reducible refine ev_scrSl ?_; refine ⟨_, rfl, ?_⟩) | (with_reducible refine ev_scrLen ?_; refine ⟨_, rfl, ?_⟩) | (with_reducible refine ev_callScr ?_; refine ⟨_, rfl, ?_⟩) | (with_reducible refine ev_OL ?_; refine ⟨_, _, rfl, rfl, ?_⟩) | with_reducible refine ev_OR ?_ | with_reducible refine ev_rep ?_ | with_reducible refine ev_listRng1 ?_ | with_reducible refine eo_setO ?_
  | with_reducible refine es_name ?_ | with_reducible refine es_tup2 ?_ | with_reducible refine es_tup3 ?_
  | with_reducible refine ed_addI ?_ | with_reducible refine ed_subI ?_ | with_reducible refine ed_cmp ?_ | with_reducible refine ed_eqI ?_ | with_reducible refine ed_neI ?_ | with_reducible refine ed_slT ?_ | with_reducible refine ed_slL ?_ | with_reducible refine ed_lenT ?_ | with_reducible refine ed_lenL ?_ | with_reducible refine ed_lenS ?_ | with_reducible refine ed_inS ?_ | with_reducible refine ed_itT ?_ | with_reducible refine ed_itL ?_ | with_reducible refine ed_tupL ?_ | with_reducible refine ed_tupT ?_ | with_reducible refine ed_listL ?_ | with_reducible refine ed_listT ?_ | with_reducible refine ed_neg ?_ | with_reducible refine ed_max ?_ | with_reducible refine ed_min ?_ | with_reducible refine ed_intB ?_
  | with_reducible refine ev_rng1 ?_ | with_reducible refine ev_rng2 ?_)
local macro_rules | `(tactic| walk_at "sd") => `(tactic| first | rfl | assumption | (simp only [decide_eq_true_eq, decide_eq_false_iff_not, Bool.not_eq_true', Bool.not_eq_false', Bool.and_eq_true, Bool.or_eq_true, List.length_map, List.length_cons, List.length_nil, List.length_append, List.length_range] at *; omega))
local macro_rules | `(tactic| walk_at "e2") => `(tactic| first
  | walk_at "e1" | with_reducible refine ⟨_, rfl, ?_⟩ | with_reducible refine ⟨_, _, rfl, ?_⟩
  | with_reducible refine And.intro (Eq.refl (List.length _)) ?_ | with_reducible refine And.intro (Nat.le_of_ble_eq_true (n := List.length _) rfl) ?_
  | with_reducible refine And.intro (Eq.refl (_ : Sx)) (?_ : Ed _ _)
  | ((with_reducible refine And.intro ?_ (And.intro ?_ (?_ : Ev _ _))); (· rfl); (· rfl))
  | ((with_reducible refine ed_ixT ?_ ?_ ?_); (· decide); (· rfl)) | ((with_reducible refine ed_ixL ?_ ?_ ?_); (· decide); (· rfl)) | ((with_reducible refine ed_at ?_ ?_ ?_); (· decide); (· rfl))
  | ((with_reducible refine ed_modI ?_ ?_); (· first | decide | omega))
  | with_reducible exact gives_nx | ((with_reducible refine gives_rt ?_); (· rfl)) | ((with_reducible refine And.intro ?_ ?_); (· exact rfl); (· with_reducible exact Eq.refl (_ : Sx))))
local macro_rules | `(tactic| walk_at "e") => `(tactic| repeat walk_at "e2")
/-- begin a def's spec -/
local macro_rules | `(tactic| walk_at "i") => `(tactic| simp only [initS, List.map_cons, List.map_nil, List.length_cons, List.length_nil, Nat.reduceAdd, Nat.reduceSub, List.replicate, List.cons_append, List.nil_append])
/-- a known truth decides -/
local macro_rules | `(tactic| walk_at "t") => `(tactic| first | ((with_reducible refine split_t ?_ ?_); (· walk_at "sd")) | ((with_reducible refine split_t' ?_ ?_); (· walk_at "sd")))
local macro_rules | `(tactic| walk_at "f") => `(tactic| first | ((with_reducible refine split_f ?_ ?_); (· walk_at "sd")) | ((with_reducible refine split_f' ?_ ?_); (· walk_at "sd")))
/-- all that is seen in a look -/
local macro_rules | `(tactic| walk_at "v") => `(tactic| (rw [sealAll_mk (by (simp only [List.set_cons_zero, List.set_cons_succ, List.map_cons, List.map_nil, sealS_none, sealS_dat, sealS_scr, sealS_own, List.getElem?_cons_zero, List.getElem?_cons_succ, sealC_lst]; rfl)) (by (simp only [List.set_cons_zero, List.set_cons_succ, List.map_cons, List.map_nil]; rfl))]))
open Pt Gr
/-! #### how great the fewest may be -/
end Lw

set_option maxHeartbeats 4000000
namespace Lw
open PySem Fu
local macro_rules | `(tactic| walk_at "e1") => `(tactic| first
  | with_reducible refine eo_seq ?_ | (with_reducible refine then_nx' ?_; refine ⟨?_, ?_, ?_⟩; rotate_left; · (try dsimp only [List.set, List.length_cons, List.length_nil, List.cons_append, List.nil_append, Nat.zero_add, Nat.reduceAdd]); exact rfl) | with_reducible refine then_rt ?_ | with_reducible refine eo_if ?_ | with_reducible refine eo_ret ?_ | with_reducible refine eo_set ?_ | with_reducible refine eo_asg ?_ | with_reducible refine eo_drop ?_ | with_reducible refine eo_nx ?_ | with_reducible refine eo_par ?_ | with_reducible refine eo_own ?_ | with_reducible refine eo_retN ?_ | with_reducible refine eo_for ?_ | with_reducible refine eo_retO ?_
  | with_reducible refine ev_c ?_ | (with_reducible refine ev_var ?_; refine ⟨_, rfl, ?_⟩) | with_reducible refine ev_bin ?_ | with_reducible refine ev_un ?_ | with_reducible refine ev_nil ?_ | with_reducible refine ev_cons ?_
  | with_reducible refine ev_tup ?_ | with_reducible refine ev_lst ?_ | with_reducible refine ev_call ?_ | with_reducible refine ev_callF ?_ | with_reducible refine ev_isi ?_ | with_reducible refine ev_isi2 ?_ | with_reducible refine ev_andV ?_ | with_reducible refine ev_orV ?_ | with_reducible refine ev_notV ?_
  | with_reducible refine ev_B ?_ | with_reducible refine ev_and ?_ | with_reducible refine ev_or ?_ | with_reducible refine ev_not ?_ | with_reducible refine ev_yes ?_ | with_reducible refine ev_if ?_ | with_reducible refine ev_no ?_ | with_reducible refine ev_so ?_ | with_reducible refine ev_sl ?_ | with_reducible refine ev_items ?_
  | (with_reducible refine ev_ixO ?_; refine ⟨_, _, rfl, rfl, ?_⟩) | (with_reducible refine ev_varO ?_; refine ⟨_, _, rfl, rfl, ?_⟩) | (with_reducible refine ev_lenO ?_; refine ⟨_, _, rfl, rfl, ?_⟩) | (with_reducible refine ev_scrSl ?_; refine ⟨_, rfl, ?_⟩) | (with_reducible refine ev_scrLen ?_; refine ⟨_, rfl, ?_⟩) | (with_reducible refine ev_callScr ?_; refine ⟨_, rfl, ?_⟩) | (with_reducible refine ev_OL ?_; refine ⟨_, _, rfl, rfl, ?_⟩) | with_reducible refine ev_OR ?_ | with_reducible refine ev_rep ?_ | with_reducible refine ev_listRng1 ?_ | with_reducible refine eo_setO ?_
  | with_reducible refine es_name ?_ | with_reducible refine es_tup2 ?_ | with_reducible refine es_tup3 ?_
  | with_reducible refine ed_addI ?_ | with_reducible refine ed_subI ?_ | with_reducible refine ed_cmp ?_ | with_reducible refine ed_eqI ?_ | with_reducible refine ed_neI ?_ | with_reducible refine ed_slT ?_ | with_reducible refine ed_slL ?_ | with_reducible refine ed_lenT ?_ | with_reducible refine ed_lenL ?_ | with_reducible refine ed_lenS ?_ | with_reducible refine ed_inS ?_ | with_reducible refine ed_itT ?_ | with_reducible refine ed_itL ?_ | with_reducible refine ed_tupL ?_ | with_reducible refine ed_tupT ?_ | with_reducible refine ed_listL ?_ | with_reducible refine ed_listT ?_ | with_reducible refine ed_neg ?_ | with_reducible refine ed_max ?_ | with_reducible refine ed_min ?_ | with_reducible refine ed_intB ?_
  | with_reducible refine ev_rng1 ?_ | with_reducible refine ev_rng2 ?_)
local macro_rules | `(tactic| walk_at "sd") => `(tactic| first | rfl | assumption | (simp only [decide_eq_true_eq, decide_eq_false_iff_not, Bool.not_eq_true', Bool.not_eq_false', Bool.and_eq_true, Bool.or_eq_true, List.length_map, List.length_cons, List.length_nil, List.length_append, List.length_range] at *; omega))
local macro_rules | `(tactic| walk_at "e2") => `(tactic| first
  | walk_at "e1" | with_reducible refine ⟨_, rfl, ?_⟩ | with_reducible refine ⟨_, _, rfl, ?_⟩
  | with_reducible refine And.intro (Eq.refl (List.length _)) ?_ | with_reducible refine And.intro (Nat.le_of_ble_eq_true (n := List.length _) rfl) ?_
  | with_reducible refine And.intro (Eq.refl (_ : Sx)) (?_ : Ed _ _)
  | ((with_reducible refine And.intro ?_ (And.intro ?_ (?_ : Ev _ _))); (· rfl); (· rfl))
  | ((with_reducible refine ed_ixTx ?_); refine ⟨_, by decide, rfl, ?_⟩) | ((with_reducible refine ed_ixLx ?_); refine ⟨_, by decide, rfl, ?_⟩) | ((with_reducible refine es_star ?_))
  | with_reducible refine an_tt ?_ | with_reducible refine an_ft ?_ | with_reducible refine an_tf ?_ | with_reducible refine an_ff ?_ | with_reducible refine an_ntt ?_ | with_reducible refine an_nft ?_ | with_reducible refine an_ntf ?_ | with_reducible refine an_nff ?_
  | ((with_reducible refine ed_dneSelf ?_)) | ((with_reducible refine ed_deqSelf ?_))
  | ((with_reducible refine ed_ixT ?_ ?_ ?_); (· decide); (· rfl)) | ((with_reducible refine ed_ixL ?_ ?_ ?_); (· decide); (· rfl)) | ((with_reducible refine ed_at ?_ ?_ ?_); (· decide); (· rfl))
  | ((with_reducible refine ed_modI ?_ ?_); (· first | decide | omega))
  | with_reducible exact gives_nx | ((with_reducible refine gives_rt ?_); (· rfl)) | ((with_reducible refine And.intro ?_ ?_); (· exact rfl); (· with_reducible exact Eq.refl (_ : Sx))))
local macro_rules | `(tactic| walk_at "e") => `(tactic| repeat walk_at "e2")
/-- begin a def's spec -/
local macro_rules | `(tactic| walk_at "i") => `(tactic| simp only [initS, List.map_cons, List.map_nil, List.length_cons, List.length_nil, Nat.reduceAdd, Nat.reduceSub, List.replicate, List.cons_append, List.nil_append])
/-- a known truth decides -/
local macro_rules | `(tactic| walk_at "t") => `(tactic| first | ((with_reducible refine split_t ?_ ?_); (· walk_at "sd")) | ((with_reducible refine split_t' ?_ ?_); (· walk_at "sd")))
local macro_rules | `(tactic| walk_at "f") => `(tactic| first | ((with_reducible refine split_f ?_ ?_); (· walk_at "sd")) | ((with_reducible refine split_f' ?_ ?_); (· walk_at "sd")))
/-- all that is seen in a look -/
local macro_rules | `(tactic| walk_at "v") => `(tactic| (rw [sealAll_mk (by (simp only [List.set_cons_zero, List.set_cons_succ, List.map_cons, List.map_nil, sealS_none, sealS_dat, sealS_scr, sealS_own, List.getElem?_cons_zero, List.getElem?_cons_succ, sealC_lst]; rfl)) (by (simp only [List.set_cons_zero, List.set_cons_succ, List.map_cons, List.map_nil]; rfl))]))
open Pt Gr
open L2 (Key)
/-! #### dicts: the rules -/
/-! #### keys -/
/-! #### reasons -/
end Lw

set_option maxHeartbeats 4000000
namespace Lw
open PySem Fu
local macro_rules | `(tactic| walk_at "e1") => `(tactic| first
  | with_reducible refine eo_seq ?_ | (with_reducible refine then_nx' ?_; refine ⟨?_, ?_, ?_⟩; rotate_left; · (try dsimp only [List.set, List.length_cons, List.length_nil, List.cons_append, List.nil_append, Nat.zero_add, Nat.reduceAdd]); exact rfl) | with_reducible refine then_rt ?_ | with_reducible refine eo_if ?_ | with_reducible refine eo_ret ?_ | with_reducible refine eo_set ?_ | with_reducible refine eo_asg ?_ | with_reducible refine eo_drop ?_ | with_reducible refine eo_nx ?_ | with_reducible refine eo_par ?_ | with_reducible refine eo_own ?_ | with_reducible refine eo_retN ?_ | with_reducible refine eo_for ?_ | with_reducible refine eo_retO ?_
  | with_reducible refine ev_c ?_ | (with_reducible refine ev_var ?_; refine ⟨_, rfl, ?_⟩) | with_reducible refine ev_bin ?_ | with_reducible refine ev_un ?_ | with_reducible refine ev_nil ?_ | with_reducible refine ev_cons ?_
  | with_reducible refine ev_tup ?_ | with_reducible refine ev_lst ?_ | with_reducible refine ev_call ?_ | with_reducible refine ev_callF ?_ | with_reducible refine ev_isi ?_ | with_reducible refine ev_isi2 ?_ | with_reducible refine ev_andV ?_ | with_reducible refine ev_orV ?_ | with_reducible refine ev_notV ?_
  | with_reducible refine ev_B ?_ | with_reducible refine ev_and ?_ | with_reducible refine ev_or ?_ | with_reducible refine ev_not ?_ | with_reducible refine ev_yes ?_ | with_reducible refine ev_if ?_ | with_reducible refine ev_no ?_ | with_reducible refine ev_so ?_ | with_reducible refine ev_sl ?_ | with_reducible refine ev_items ?_
  | (with_reducible refine ev_ixO ?_; refine ⟨_, _, rfl, rfl, ?_⟩) | (with_reducible refine ev_varO ?_; refine ⟨_, _, rfl, rfl, ?_⟩) | (with_reducible refine ev_lenO ?_; refine ⟨_, _, rfl, rfl, ?_⟩) | (with_reducible refine ev_scrSl ?_; refine ⟨_, rfl, ?_⟩) | (with_reducible refine ev_scrLen ?_; refine ⟨_, rfl, ?_⟩) | (with_reducible refine ev_callScr ?_; refine ⟨_, rfl, ?_⟩) | (with_reducible refine ev_OL ?_; refine ⟨_, _, rfl, rfl, ?_⟩) | with_reducible refine ev_OR ?_ | with_reducible refine ev_rep ?_ | with_reducible refine ev_listRng1 ?_ | with_reducible refine eo_setO ?_
  | with_reducible refine es_name ?_ | with_reducible refine es_tup2 ?_ | with_reducible refine es_tup3 ?_
  | with_reducible refine ed_addI ?_ | with_reducible refine ed_subI ?_ | with_reducible refine ed_cmp ?_ | with_reducible refine ed_eqI ?_ | with_reducible refine ed_neI ?_ | with_reducible refine ed_slT ?_ | with_reducible refine ed_slL ?_ | with_reducible refine ed_lenT ?_ | with_reducible refine ed_lenL ?_ | with_reducible refine ed_lenS ?_ | with_reducible refine ed_inS ?_ | with_reducible refine ed_itT ?_ | with_reducible refine ed_itL ?_ | with_reducible refine ed_tupL ?_ | with_reducible refine ed_tupT ?_ | with_reducible refine ed_listL ?_ | with_reducible refine ed_listT ?_ | with_reducible refine ed_neg ?_ | with_reducible refine ed_max ?_ | with_reducible refine ed_min ?_ | with_reducible refine ed_intB ?_
  | with_reducible refine ev_rng1 ?_ | with_reducible refine ev_rng2 ?_)
local macro_rules | `(tactic| walk_at "sd") => `(tactic| first | rfl | assumption | (simp only [decide_eq_true_eq, decide_eq_false_iff_not, Bool.not_eq_true', Bool.not_eq_false', Bool.and_eq_true, Bool.or_eq_true, List.length_map, List.length_cons, List.length_nil, List.length_append, List.length_range] at *; omega))
local macro_rules | `(tactic| walk_at "e2") => `(tactic| first
  | walk_at "e1" | with_reducible refine ⟨_, rfl, ?_⟩ | with_reducible refine ⟨_, _, rfl, ?_⟩
  | with_reducible refine And.intro (Eq.refl (List.length _)) ?_ | with_reducible refine And.intro (Nat.le_of_ble_eq_true (n := List.length _) rfl) ?_
  | with_reducible refine And.intro (Eq.refl (_ : Sx)) (?_ : Ed _ _)
  | ((with_reducible refine And.intro ?_ (And.intro ?_ (?_ : Ev _ _))); (· rfl); (· rfl))
  | ((with_reducible refine ed_ixTx ?_); refine ⟨_, by decide, rfl, ?_⟩) | ((with_reducible refine ed_ixLx ?_); refine ⟨_, by decide, rfl, ?_⟩) | ((with_reducible refine es_star ?_))
  | with_reducible refine an_tt ?_ | with_reducible refine an_ft ?_ | with_reducible refine an_tf ?_ | with_reducible refine an_ff ?_ | with_reducible refine an_ntt ?_ | with_reducible refine an_nft ?_ | with_reducible refine an_ntf ?_ | with_reducible refine an_nff ?_
  | ((with_reducible refine ed_dneSelf ?_)) | ((with_reducible refine ed_deqSelf ?_))
  | ((with_reducible refine ed_ixT ?_ ?_ ?_); (· decide); (· rfl)) | ((with_reducible refine ed_ixL ?_ ?_ ?_); (· decide); (· rfl)) | ((with_reducible refine ed_at ?_ ?_ ?_); (· decide); (· rfl))
  | ((with_reducible refine ed_modI ?_ ?_); (· first | decide | omega))
  | with_reducible exact gives_nx | ((with_reducible refine gives_rt ?_); (· rfl)) | ((with_reducible refine And.intro ?_ ?_); (· exact rfl); (· with_reducible exact Eq.refl (_ : Sx))))
local macro_rules | `(tactic| walk_at "e") => `(tactic| repeat walk_at "e2")
/-- begin a def's spec -/
local macro_rules | `(tactic| walk_at "i") => `(tactic| simp only [initS, List.map_cons, List.map_nil, List.length_cons, List.length_nil, Nat.reduceAdd, Nat.reduceSub, List.replicate, List.cons_append, List.nil_append])
/-- a known truth decides -/
local macro_rules | `(tactic| walk_at "t") => `(tactic| first | ((with_reducible refine split_t ?_ ?_); (· walk_at "sd")) | ((with_reducible refine split_t' ?_ ?_); (· walk_at "sd")))
local macro_rules | `(tactic| walk_at "f") => `(tactic| first | ((with_reducible refine split_f ?_ ?_); (· walk_at "sd")) | ((with_reducible refine split_f' ?_ ?_); (· walk_at "sd")))
/-- all that is seen in a look -/
local macro_rules | `(tactic| walk_at "v") => `(tactic| (rw [sealAll_mk (by (simp only [List.set_cons_zero, List.set_cons_succ, List.map_cons, List.map_nil, sealS_none, sealS_dat, sealS_scr, sealS_own, List.getElem?_cons_zero, List.getElem?_cons_succ, sealC_lst]; rfl)) (by (simp only [List.set_cons_zero, List.set_cons_succ, List.map_cons, List.map_nil]; rfl))]))
open Pt Gr
open L2 (Key)
/-! #### reasons judged -/
/-! #### what a paper shows -/
theorem es_seqQ {i j : Nat} {x d e : D} {S : Sx} {W : Sx → Prop} (s : Sq x [d, e]) (h : W ⟨(S.sl.set i (some (.dat d))).set j (some (.dat e)), S.os⟩) : Es (sSeq 2 (sCons (sName i) (sCons (sName j) sNil)) x S) W := by
  rcases s with rfl | rfl <;> exact ⟨_, rfl, h⟩
end Lw

set_option maxHeartbeats 4000000
namespace Lw
open PySem Fu
local macro_rules | `(tactic| walk_at "e1") => `(tactic| first
  | with_reducible refine eo_seq ?_ | (with_reducible refine then_nx' ?_; refine ⟨?_, ?_, ?_⟩; rotate_left; · (try dsimp only [List.set, List.length_cons, List.length_nil, List.cons_append, List.nil_append, Nat.zero_add, Nat.reduceAdd]); exact rfl) | with_reducible refine then_rt ?_ | with_reducible refine eo_if ?_ | with_reducible refine eo_ret ?_ | with_reducible refine eo_set ?_ | with_reducible refine eo_asg ?_ | with_reducible refine eo_drop ?_ | with_reducible refine eo_nx ?_ | with_reducible refine eo_par ?_ | with_reducible refine eo_own ?_ | with_reducible refine eo_retN ?_ | with_reducible refine eo_for ?_ | with_reducible refine eo_retO ?_
  | with_reducible refine ev_c ?_ | (with_reducible refine ev_var ?_; refine ⟨_, rfl, ?_⟩) | with_reducible refine ev_bin ?_ | with_reducible refine ev_un ?_ | with_reducible refine ev_nil ?_ | with_reducible refine ev_cons ?_
  | with_reducible refine ev_tup ?_ | with_reducible refine ev_lst ?_ | with_reducible refine ev_call ?_ | with_reducible refine ev_callF ?_ | with_reducible refine ev_isi ?_ | with_reducible refine ev_isi2 ?_ | with_reducible refine ev_andV ?_ | with_reducible refine ev_orV ?_ | with_reducible refine ev_notV ?_
  | with_reducible refine ev_B ?_ | with_reducible refine ev_and ?_ | with_reducible refine ev_or ?_ | with_reducible refine ev_not ?_ | with_reducible refine ev_yes ?_ | with_reducible refine ev_if ?_ | with_reducible refine ev_no ?_ | with_reducible refine ev_so ?_ | with_reducible refine ev_sl ?_ | with_reducible refine ev_items ?_
  | (with_reducible refine ev_ixO ?_; refine ⟨_, _, rfl, rfl, ?_⟩) | (with_reducible refine ev_varO ?_; refine ⟨_, _, rfl, rfl, ?_⟩) | (with_reducible refine ev_lenO ?_; refine ⟨_, _, rfl, rfl, ?_⟩) | (with_reducible refine ev_scrSl ?_; refine ⟨_, rfl, ?_⟩) | (with_reducible refine ev_scrLen ?_; refine ⟨_, rfl, ?_⟩) | (with_reducible refine ev_callScr ?_; refine ⟨_, rfl, ?_⟩) | (with_reducible refine ev_OL ?_; refine ⟨_, _, rfl, rfl, ?_⟩) | with_reducible refine ev_OR ?_ | with_reducible refine ev_rep ?_ | with_reducible refine ev_listRng1 ?_ | with_reducible refine eo_setO ?_
  | with_reducible refine es_name ?_ | with_reducible refine es_tup2 ?_ | with_reducible refine es_tup3 ?_
  | with_reducible refine ed_addI ?_ | with_reducible refine ed_subI ?_ | with_reducible refine ed_cmp ?_ | with_reducible refine ed_eqI ?_ | with_reducible refine ed_neI ?_ | with_reducible refine ed_slT ?_ | with_reducible refine ed_slL ?_ | with_reducible refine ed_lenT ?_ | with_reducible refine ed_lenL ?_ | with_reducible refine ed_lenS ?_ | with_reducible refine ed_inS ?_ | with_reducible refine ed_itT ?_ | with_reducible refine ed_itL ?_ | with_reducible refine ed_tupL ?_ | with_reducible refine ed_tupT ?_ | with_reducible refine ed_listL ?_ | with_reducible refine ed_listT ?_ | with_reducible refine ed_neg ?_ | with_reducible refine ed_max ?_ | with_reducible refine ed_min ?_ | with_reducible refine ed_intB ?_
  | with_reducible refine ev_rng1 ?_ | with_reducible refine ev_rng2 ?_)
local macro_rules | `(tactic| walk_at "sd") => `(tactic| first | rfl | assumption | (simp only [decide_eq_true_eq, decide_eq_false_iff_not, Bool.not_eq_true', Bool.not_eq_false', Bool.and_eq_true, Bool.or_eq_true, List.length_map, List.length_cons, List.length_nil, List.length_append, List.length_range] at *; omega))
local macro_rules | `(tactic| walk_at "e2") => `(tactic| first
  | walk_at "e1" | with_reducible refine ⟨_, rfl, ?_⟩ | with_reducible refine ⟨_, _, rfl, ?_⟩
  | with_reducible refine And.intro (Eq.refl (List.length _)) ?_ | with_reducible refine And.intro (Nat.le_of_ble_eq_true (n := List.length _) rfl) ?_
  | with_reducible refine And.intro (Eq.refl (_ : Sx)) (?_ : Ed _ _)
  | ((with_reducible refine And.intro ?_ (And.intro ?_ (?_ : Ev _ _))); (· rfl); (· rfl))
  | ((with_reducible refine ed_ixTx ?_); refine ⟨_, by decide, rfl, ?_⟩) | ((with_reducible refine ed_ixLx ?_); refine ⟨_, by decide, rfl, ?_⟩) | ((with_reducible refine es_star ?_))
  | with_reducible refine an_tt ?_ | with_reducible refine an_ft ?_ | with_reducible refine an_tf ?_ | with_reducible refine an_ff ?_ | with_reducible refine an_ntt ?_ | with_reducible refine an_nft ?_ | with_reducible refine an_ntf ?_ | with_reducible refine an_nff ?_
  | ((with_reducible refine ed_dneSelf ?_)) | ((with_reducible refine ed_deqSelf ?_))
  | ((with_reducible refine ed_ixT ?_ ?_ ?_); (· decide); (· rfl)) | ((with_reducible refine ed_ixL ?_ ?_ ?_); (· decide); (· rfl)) | ((with_reducible refine ed_at ?_ ?_ ?_); (· decide); (· rfl))
  | ((with_reducible refine ed_modI ?_ ?_); (· first | decide | omega))
  | with_reducible exact gives_nx | ((with_reducible refine gives_rt ?_); (· rfl)) | ((with_reducible refine And.intro ?_ ?_); (· exact rfl); (· with_reducible exact Eq.refl (_ : Sx))))
local macro_rules | `(tactic| walk_at "e") => `(tactic| repeat walk_at "e2")
/-- begin a def's spec -/
local macro_rules | `(tactic| walk_at "i") => `(tactic| simp only [initS, List.map_cons, List.map_nil, List.length_cons, List.length_nil, Nat.reduceAdd, Nat.reduceSub, List.replicate, List.cons_append, List.nil_append])
/-- a known truth decides -/
local macro_rules | `(tactic| walk_at "t") => `(tactic| first | ((with_reducible refine split_t ?_ ?_); (· walk_at "sd")) | ((with_reducible refine split_t' ?_ ?_); (· walk_at "sd")))
local macro_rules | `(tactic| walk_at "f") => `(tactic| first | ((with_reducible refine split_f ?_ ?_); (· walk_at "sd")) | ((with_reducible refine split_f' ?_ ?_); (· walk_at "sd")))
/-- all that is seen in a look -/
local macro_rules | `(tactic| walk_at "v") => `(tactic| (rw [sealAll_mk (by (simp only [List.set_cons_zero, List.set_cons_succ, List.map_cons, List.map_nil, sealS_none, sealS_dat, sealS_scr, sealS_own, List.getElem?_cons_zero, List.getElem?_cons_succ, sealC_lst]; rfl)) (by (simp only [List.set_cons_zero, List.set_cons_succ, List.map_cons, List.map_nil]; rfl))]))
/-! ### ridings judged: of anything -/
open Rd
def wordB (d : D) (x : Str) : Bool := match d with
  | .str y => decide (y = x)
  | _ => false
def pieceB (ls : List Ln) (d : D) : Bool := rowD 2 d && (wordB (atD d 0) "ride" && rideD ls (atD d 1) || wordB (atD d 0) "round" && roundD ls (atD d 1))
theorem x_is_piece {w d : D} {p : Int} {ls : List Ln} (hw : Web w p ls) (h : WbOk p ls) (hz : lenD (atD d 1) ≤ 4000) : m_is_piece [w, d] = some (.bool (pieceB ls d)) := by
  unfold m_is_piece; refine mF_of ?_; walk_at "i"; unfold g_is_piece
  walk_at "e"
  refine Ed.of (x_is_row d 2) ?_
  cases hr : rowD 2 d with
  | false =>
    walk_at "e"
    unfold pieceB; rw [hr]; rfl
  | true =>
  obtain ⟨a, b, sd⟩ := row2 hr
  rw [atD1 sd] at hz
  walk_at "e"
  refine ed_ixQ sd (by decide) rfl ?_
  walk_at "e"
  refine ⟨fun hs => ?_, fun hs => ?_⟩
  · walk_at "e"
    unfold pieceB; rw [hr, atD0 sd, atD1 sd]
    cases a <;> simp [isT, dTy] at hs <;> rfl
  · obtain ⟨x, rfl⟩ : ∃ x, a = .str x := by cases a <;> simp [isT, dTy] at hs; exact ⟨_, rfl⟩
    walk_at "e"
    refine ed_ixQ sd (by decide) rfl ?_
    walk_at "e"
    refine Ed.of (dEq_str x _) ?_
    walk_at "e"
    have e0 : pieceB ls d = (decide (x = "ride") && rideD ls b || decide (x = "round") && roundD ls b) := by unfold pieceB; rw [hr, atD0 sd, atD1 sd]; rfl
    rw [e0]
    have second : ∀ (c : Bool), (decide (x = "ride") && rideD ls b) = false → Ev (gAndV (gBin dEq (gBin dIx (gVar 1) (gC (.int 0))) (gC (.str "round"))) (gCallF 2 m_round_is (gCons (gVar 0) (gCons (gBin dIx (gVar 1) (gC (.int 1))) gNil))) { sl := [some (R.dat w), some (R.dat d)], os := [] }) fun e S2 => ∃ c, e = PyData.bool c ∧ Fu.Gives (PyData.bool (decide (x = "ride") && rideD ls b || decide (x = "round") && roundD ls b)) (Out.rt (PyData.bool c) S2) := by
      intro _ h0
      rw [h0, Bool.false_or]
      walk_at "e"
      refine ed_ixQ sd (by decide) rfl ?_
      walk_at "e"
      refine Ed.of (dEq_str x _) ?_
      walk_at "e"
      refine ⟨fun h2 => ?_, fun h2 => ?_⟩
      · walk_at "e"
        refine ed_ixQ sd (by decide) rfl ?_
        walk_at "e"
        refine Ed.of (x_round_is hw h b hz) ?_
        refine ⟨_, rfl, ?_⟩
        rw [h2, Bool.true_and]
        walk_at "e"
      · refine ⟨_, rfl, ?_⟩
        rw [h2, Bool.false_and]
        walk_at "e"
    refine ⟨fun h1 => ?_, fun h1 => ?_⟩
    · walk_at "e"
      refine ed_ixQ sd (by decide) rfl ?_
      walk_at "e"
      refine Ed.of (x_ride_is hw h b hz) ?_
      refine ⟨_, rfl, _, rfl, fun h2 => ?_, fun h2 => ?_⟩
      · exact second false (by rw [h1, h2]; rfl)
      · rw [h1, h2]; walk_at "e"
    · refine ⟨_, rfl, fun _ => ?_, fun h2 => nomatch h2⟩
      exact second false (by rw [h1]; rfl)
def linesOf (xs : List D) : List Int := xs.flatMap fun x => ((seqOf (atD x 1)).getD []).map fun z => (unEn z).1
def ridD (ls : List Ln) (d : D) : Bool := match seqOf d with
  | none => false
  | some xs => xs.all (pieceB ls) && decide ((linesOf xs).Perm ((List.range ls.length).map fun i : Nat => (i : Int)))
theorem ed_eqSort {ns : List Int} {n : Nat} {Q : D → Prop} (q : Q (.bool (decide (ns.Perm ((List.range n).map fun i : Nat => (i : Int)))))) : Ed (dSorted [.list (ns.map PyData.int)]) fun x => Ed (dEq x (.list (rng 0 n))) Q := by
  refine ⟨.list ((ns.map PyData.int).mergeSort leD), by simp only [dSorted, sortOk_ints, if_true], ?_⟩
  have g1 : Good 1 (.list ((ns.map PyData.int).mergeSort leD)) := good_list fun d hd => by
    obtain ⟨i, _, rfl⟩ := List.mem_map.mp ((List.mergeSort_perm _ _).mem_iff.mp hd); exact good_int _
  have e1 : rng 0 n = ((List.range n).map fun i : Nat => (i : Int)).map PyData.int := by rw [rng0, List.map_map]; rfl
  have g2 : Good 1 (.list (rng 0 n)) := good_list fun d hd => by
    rw [e1] at hd
    obtain ⟨i, _, rfl⟩ := List.mem_map.mp hd; exact good_int _
  refine ed_eq_good g1 g2 (fun e => ?_) (fun e => ?_)
  · have : ns.Perm ((List.range n).map fun i : Nat => (i : Int)) := by
      have h := (List.mergeSort_perm (ns.map PyData.int) leD).symm
      rw [PyData.list.inj e, e1] at h
      have := h.map (fun d => match d with | .int i => i | _ => 0)
      simpa [List.map_map, Function.comp_def] using this
    rwa [decide_eq_true this] at q
  · rwa [decide_eq_false (fun z => e (congrArg PyData.list (sorted_range z)))] at q
theorem pieceB_inv {ls : List Ln} {x : D} (h : pieceB ls x = true) : ∃ a b, Sq x [a, b] ∧ ∃ es, IsRide b es := by
  unfold pieceB at h
  rw [Bool.and_eq_true, Bool.or_eq_true, Bool.and_eq_true, Bool.and_eq_true] at h
  obtain ⟨hr, h⟩ := h
  obtain ⟨a, b, sd⟩ := row2 hr
  rw [atD1 sd] at h
  refine ⟨a, b, sd, ?_⟩
  rcases h with h | h
  · obtain ⟨es, k, _⟩ := of_rideD h.2; exact ⟨es, k⟩
  · obtain ⟨es, k, _⟩ := of_roundD h.2; exact ⟨es, k⟩
theorem x_riding_is {w d : D} {p : Int} {ls : List Ln} (hw : Web w p ls) (h : WbOk p ls) (hl : ls.length ≤ 1000000) (hz : ∀ xs, seqOf d = some xs → xs.length ≤ 4000 ∧ ∀ x ∈ xs, lenD (atD x 1) ≤ 4000) : m_riding_is [w, d] = some (.bool (ridD ls d)) := by
  obtain ⟨L, sw, hL⟩ := id hw
  obtain ⟨ys, sy, hly⟩ := lns_len hL
  unfold m_riding_is; refine mF_of ?_; walk_at "i"; unfold g_riding_is
  walk_at "e"
  rw [isi_seq]
  refine ⟨fun h1 => ?_, fun h1 => ?_⟩
  rotate_left
  · have h1 : seqOf d = none := by simpa using h1
    walk_at "e"
    unfold ridD
    rw [h1]
    rfl
  obtain ⟨xs, hx⟩ := Option.isSome_iff_exists.mp (show (seqOf d).isSome = true by simpa using h1)
  obtain ⟨z1, z2⟩ := hz xs hx
  have s := sq_of hx
  have er : ridD ls d = (xs.all (pieceB ls) && decide ((linesOf xs).Perm ((List.range ls.length).map fun i : Nat => (i : Int)))) := by unfold ridD; rw [hx]
  rw [er]
  walk_at "e"
  refine ev_mapX (xs := xs) (enc := fun z => z) (g := fun z => .bool (pieceB ls z)) ?_
  walk_at "e"
  refine ed_itQ s ⟨by simp, fun z hz => ?_, ?_⟩
  · walk_at "e"
    exact Ed.of (x_is_piece hw h (z2 z hz)) ⟨rfl, rfl⟩
  walk_at "e"
  refine all_mapX (pieceB ls) xs ?_
  walk_at "e"
  cases ha : xs.all (pieceB ls) with
  | false => walk_at "e"
  | true =>
  have hall := List.all_eq_true.mp ha
  walk_at "e"
  refine ev_lc2X (xs := xs) (enc := fun z => z) (b := fun _ => true) (es := fun x => (seqOf (atD x 1)).getD []) (enc1 := fun _ z => z) (b1 := fun _ _ => true) (f := fun _ z => .int (unEn z).1) (by decide) ?_
  walk_at "e"
  refine ed_itQ s ⟨(List.map_id' _).symm, fun x hx => ?_, ?_, ?_⟩
  · obtain ⟨a, b, sx, es, ⟨qs, sb, rfl, hq⟩⟩ := pieceB_inv (hall x hx)
    refine es_seqQ sx ?_
    walk_at "e"
    refine ⟨rfl, rfl, fun _ => ?_⟩
    walk_at "e"
    rw [atD1 sx, sb.of]
    refine ed_itQ sb ⟨⟨(List.map_id' _).symm, rfl⟩, fun z hz => ?_⟩
    obtain ⟨q, hq2, rfl⟩ := List.mem_map.mp hz
    walk_at "e"
    refine ⟨rfl, rfl, fun _ => ?_⟩
    walk_at "e"
    refine ed_ixQ (hq q hq2) (by decide) rfl ?_
    rw [unEn_of (hq q hq2)]
    exact ⟨rfl, rfl⟩
  · simp only [filter_tt]
    have : ∀ ys : List D, (∀ x ∈ ys, lenD (atD x 1) ≤ 4000) → (ys.flatMap fun d => ((seqOf (atD d 1)).getD []).map fun z => PyData.int (unEn z).1).length ≤ 4000 * ys.length := by
      intro ys
      induction ys with
      | nil => intro _; exact Nat.le_refl _
      | cons y ys ih =>
        intro h
        have h1 := h y List.mem_cons_self
        have h2 := ih fun x hx => h x (List.mem_cons_of_mem _ hx)
        unfold lenD at h1
        rw [List.flatMap_cons, List.length_append, List.length_map, List.length_cons]
        omega
    have := this xs z2
    omega
  have e1 : (xs.filter fun _ => true).flatMap (fun x => (((seqOf (atD x 1)).getD []).filter fun _ => true).map fun z => PyData.int (unEn z).1) = (linesOf xs).map PyData.int := by
    simp only [filter_tt]
    unfold linesOf
    rw [List.map_flatMap]
    simp only [List.map_map]
    rfl
  rw [e1]
  walk_at "e"
  have hs : Ed (dSorted [.list ((linesOf xs).map PyData.int)]) fun x => Ed (dEq x (.list (rng 0 ls.length))) fun y => y = .bool (decide ((linesOf xs).Perm ((List.range ls.length).map fun i : Nat => (i : Int)))) := ed_eqSort rfl
  obtain ⟨x, hx1, y, hy1, rfl⟩ := hs
  refine ⟨x, hx1, ?_⟩
  show Ev _ _
  walk_at "e"
  refine ed_ixQ sw (by decide) rfl ?_
  walk_at "e"
  refine ed_lenQ sy ?_
  walk_at "e"
  refine ⟨by omega, by omega, ?_⟩
  rw [hly, Int.toNat_natCast]
  refine ⟨_, hy1, ?_⟩
  rw [Bool.true_and]
  exact gives_rt rfl
/-- a piece, as handed -/
def wordS (b : Bool) : Str := if b then "round" else "ride"
def IsPc (d : D) (x : Pc) : Prop := ∃ t, Sq d [.str (wordS x.1), t] ∧ IsRide t x.2
def IsPcs (d : D) (ps : List Pc) : Prop := ∃ qs : List (D × Pc), Sq d (qs.map (·.1)) ∧ ps = qs.map (·.2) ∧ ∀ q ∈ qs, IsPc q.1 q.2
theorem rowD_two {d a b : D} (s : Sq d [a, b]) : rowD 2 d = true := by unfold rowD; rw [s.of]; rfl
theorem pieceB_of {ls : List Ln} {d : D} {x : Pc} (h : IsPc d x) : pieceB ls d = pcB ls x := by
  obtain ⟨t, s, r⟩ := h
  obtain ⟨b, es⟩ := x
  unfold pieceB pcB
  rw [rowD_two s, atD0 s, atD1 s]
  cases b with
  | true => simp only [roundD_of r]; rfl
  | false =>
    simp only [rideD_of r]
    show (true && (decide ((wordS false) = "ride") && rideB ls es || decide ((wordS false) = "round") && roundD ls t)) = rideB ls es
    rw [decide_eq_true (show wordS false = "ride" from rfl), decide_eq_false (show ¬ wordS false = "round" by decide +kernel)]
    simp
theorem linesOf_of {qs : List (D × Pc)} (h : ∀ q ∈ qs, IsPc q.1 q.2) : linesOf (qs.map (·.1)) = lnsOf (qs.map (·.2)) := by
  induction qs with
  | nil => rfl
  | cons q qs ih =>
    obtain ⟨t, s, ps, sb, e, hp⟩ := h q List.mem_cons_self
    unfold linesOf lnsOf at *
    rw [List.map_cons, List.map_cons, List.flatMap_cons, List.flatMap_cons, ih fun q hq => h q (List.mem_cons_of_mem _ hq), atD1 s, sb.of, e]
    congr 1
    rw [Option.getD_some, List.map_map, List.map_map]
    exact List.map_congr_left fun x hx => by simp only [Function.comp]; rw [unEn_of (hp x hx)]
theorem ridD_of {ls : List Ln} {d : D} {ps : List Pc} (h : IsPcs d ps) : ridD ls d = (ps.all (pcB ls) && decide ((lnsOf ps).Perm ((List.range ls.length).map fun i : Nat => (i : Int)))) := by
  obtain ⟨qs, s, rfl, hq⟩ := h
  unfold ridD
  rw [s.of, ← linesOf_of hq]
  simp only
  congr 1
  rw [List.all_map, List.all_map]
  apply Bool.eq_iff_iff.mpr
  simp only [List.all_eq_true, Function.comp]
  exact ⟨fun k q hz => by rw [← pieceB_of (hq q hz)]; exact k q hz, fun k q hz => by rw [pieceB_of (hq q hz)]; exact k q hz⟩
theorem IsRide.len {d : D} {es : List (Int × Int)} (h : IsRide d es) : lenD d = es.length := by
  obtain ⟨ps, s, rfl, _⟩ := h
  rw [lenD_of s, List.length_map, List.length_map]
theorem x_riding_of {w d : D} {p : Int} {ls : List Ln} {ps : List Pc} (hw : Web w p ls) (h : WbOk p ls) (hl : ls.length ≤ 1000000) (hd : IsPcs d ps) (h1 : ps.length ≤ 4000) (h2 : ∀ x ∈ ps, x.2.length ≤ 4000) :
    m_riding_is [w, d] = some (.bool (ps.all (pcB ls) && decide ((lnsOf ps).Perm ((List.range ls.length).map fun i : Nat => (i : Int))))) := by
  rw [x_riding_is hw h hl fun xs hx => ?_, ridD_of hd]
  obtain ⟨qs, s, rfl, hq⟩ := hd
  rw [s.of] at hx
  cases hx
  refine ⟨by simpa using h1, fun x hx => ?_⟩
  obtain ⟨q, hq2, rfl⟩ := List.mem_map.mp hx
  obtain ⟨t, st, r⟩ := hq q hq2
  rw [atD1 st, r.len]
  exact h2 _ (List.mem_map_of_mem hq2)
end Lw

set_option maxHeartbeats 4000000
namespace Lw
open PySem Fu
local macro_rules | `(tactic| walk_at "e1") => `(tactic| first
  | with_reducible refine eo_seq ?_ | (with_reducible refine then_nx' ?_; refine ⟨?_, ?_, ?_⟩; rotate_left; · (try dsimp only [List.set, List.length_cons, List.length_nil, List.cons_append, List.nil_append, Nat.zero_add, Nat.reduceAdd]); exact rfl) | with_reducible refine then_rt ?_ | with_reducible refine eo_if ?_ | with_reducible refine eo_ret ?_ | with_reducible refine eo_set ?_ | with_reducible refine eo_asg ?_ | with_reducible refine eo_drop ?_ | with_reducible refine eo_nx ?_ | with_reducible refine eo_par ?_ | with_reducible refine eo_own ?_ | with_reducible refine eo_retN ?_ | with_reducible refine eo_for ?_ | with_reducible refine eo_retO ?_
  | with_reducible refine ev_c ?_ | (with_reducible refine ev_var ?_; refine ⟨_, rfl, ?_⟩) | with_reducible refine ev_bin ?_ | with_reducible refine ev_un ?_ | with_reducible refine ev_nil ?_ | with_reducible refine ev_cons ?_
  | with_reducible refine ev_tup ?_ | with_reducible refine ev_lst ?_ | with_reducible refine ev_call ?_ | with_reducible refine ev_callF ?_ | with_reducible refine ev_isi ?_ | with_reducible refine ev_isi2 ?_ | with_reducible refine ev_andV ?_ | with_reducible refine ev_orV ?_ | with_reducible refine ev_notV ?_
  | with_reducible refine ev_B ?_ | with_reducible refine ev_and ?_ | with_reducible refine ev_or ?_ | with_reducible refine ev_not ?_ | with_reducible refine ev_yes ?_ | with_reducible refine ev_if ?_ | with_reducible refine ev_no ?_ | with_reducible refine ev_so ?_ | with_reducible refine ev_sl ?_ | with_reducible refine ev_items ?_
  | (with_reducible refine ev_ixO ?_; refine ⟨_, _, rfl, rfl, ?_⟩) | (with_reducible refine ev_varO ?_; refine ⟨_, _, rfl, rfl, ?_⟩) | (with_reducible refine ev_lenO ?_; refine ⟨_, _, rfl, rfl, ?_⟩) | (with_reducible refine ev_scrSl ?_; refine ⟨_, rfl, ?_⟩) | (with_reducible refine ev_scrLen ?_; refine ⟨_, rfl, ?_⟩) | (with_reducible refine ev_callScr ?_; refine ⟨_, rfl, ?_⟩) | (with_reducible refine ev_OL ?_; refine ⟨_, _, rfl, rfl, ?_⟩) | with_reducible refine ev_OR ?_ | with_reducible refine ev_rep ?_ | with_reducible refine ev_listRng1 ?_ | with_reducible refine eo_setO ?_
  | with_reducible refine es_name ?_ | with_reducible refine es_tup2 ?_ | with_reducible refine es_tup3 ?_
  | with_reducible refine ed_addI ?_ | with_reducible refine ed_subI ?_ | with_reducible refine ed_cmp ?_ | with_reducible refine ed_eqI ?_ | with_reducible refine ed_neI ?_ | with_reducible refine ed_slT ?_ | with_reducible refine ed_slL ?_ | with_reducible refine ed_lenT ?_ | with_reducible refine ed_lenL ?_ | with_reducible refine ed_lenS ?_ | with_reducible refine ed_inS ?_ | with_reducible refine ed_itT ?_ | with_reducible refine ed_itL ?_ | with_reducible refine ed_tupL ?_ | with_reducible refine ed_tupT ?_ | with_reducible refine ed_listL ?_ | with_reducible refine ed_listT ?_ | with_reducible refine ed_neg ?_ | with_reducible refine ed_max ?_ | with_reducible refine ed_min ?_ | with_reducible refine ed_intB ?_
  | with_reducible refine ev_rng1 ?_ | with_reducible refine ev_rng2 ?_)
local macro_rules | `(tactic| walk_at "sd") => `(tactic| first | rfl | assumption | (simp only [decide_eq_true_eq, decide_eq_false_iff_not, Bool.not_eq_true', Bool.not_eq_false', Bool.and_eq_true, Bool.or_eq_true, List.length_map, List.length_cons, List.length_nil, List.length_append, List.length_range] at *; omega))
local macro_rules | `(tactic| walk_at "e2") => `(tactic| first
  | walk_at "e1" | with_reducible refine ⟨_, rfl, ?_⟩ | with_reducible refine ⟨_, _, rfl, ?_⟩
  | with_reducible refine And.intro (Eq.refl (List.length _)) ?_ | with_reducible refine And.intro (Nat.le_of_ble_eq_true (n := List.length _) rfl) ?_
  | with_reducible refine And.intro (Eq.refl (_ : Sx)) (?_ : Ed _ _)
  | ((with_reducible refine And.intro ?_ (And.intro ?_ (?_ : Ev _ _))); (· rfl); (· rfl))
  | ((with_reducible refine ed_ixTx ?_); refine ⟨_, by decide, rfl, ?_⟩) | ((with_reducible refine ed_ixLx ?_); refine ⟨_, by decide, rfl, ?_⟩) | ((with_reducible refine es_star ?_))
  | with_reducible refine an_tt ?_ | with_reducible refine an_ft ?_ | with_reducible refine an_tf ?_ | with_reducible refine an_ff ?_ | with_reducible refine an_ntt ?_ | with_reducible refine an_nft ?_ | with_reducible refine an_ntf ?_ | with_reducible refine an_nff ?_
  | ((with_reducible refine ed_dneSelf ?_)) | ((with_reducible refine ed_deqSelf ?_))
  | ((with_reducible refine ed_ixT ?_ ?_ ?_); (· decide); (· rfl)) | ((with_reducible refine ed_ixL ?_ ?_ ?_); (· decide); (· rfl)) | ((with_reducible refine ed_at ?_ ?_ ?_); (· decide); (· rfl))
  | ((with_reducible refine ed_modI ?_ ?_); (· first | decide | omega))
  | with_reducible exact gives_nx | ((with_reducible refine gives_rt ?_); (· rfl)) | ((with_reducible refine And.intro ?_ ?_); (· exact rfl); (· with_reducible exact Eq.refl (_ : Sx))))
local macro_rules | `(tactic| walk_at "e") => `(tactic| repeat walk_at "e2")
/-- begin a def's spec -/
local macro_rules | `(tactic| walk_at "i") => `(tactic| simp only [initS, List.map_cons, List.map_nil, List.length_cons, List.length_nil, Nat.reduceAdd, Nat.reduceSub, List.replicate, List.cons_append, List.nil_append])
/-- a known truth decides -/
local macro_rules | `(tactic| walk_at "t") => `(tactic| first | ((with_reducible refine split_t ?_ ?_); (· walk_at "sd")) | ((with_reducible refine split_t' ?_ ?_); (· walk_at "sd")))
local macro_rules | `(tactic| walk_at "f") => `(tactic| first | ((with_reducible refine split_f ?_ ?_); (· walk_at "sd")) | ((with_reducible refine split_f' ?_ ?_); (· walk_at "sd")))
/-- all that is seen in a look -/
local macro_rules | `(tactic| walk_at "v") => `(tactic| (rw [sealAll_mk (by (simp only [List.set_cons_zero, List.set_cons_succ, List.map_cons, List.map_nil, sealS_none, sealS_dat, sealS_scr, sealS_own, List.getElem?_cons_zero, List.getElem?_cons_succ, sealC_lst]; rfl)) (by (simp only [List.set_cons_zero, List.set_cons_succ, List.map_cons, List.map_nil]; rfl))]))
/-! ### ends paired up by draws: the law's dict -/
open Rd
open L2 (Key)
namespace Rd
abbrev Rws := List (En2 × En2)
def lk (rows : Rws) (e : En2) : Option En2 := (rows.find? fun r => decide (r.1 = e)).map (·.2)
structure RowsOk (ls : List Ln) (rows : Rws) : Prop where
  nd : (rows.map Prod.fst).Nodup
  all : ∀ r ∈ rows, EndOk ls.length r.1 ∧ EndOk ls.length r.2 ∧ plc ls r.1 = plc ls r.2 ∧ cmpy ls r.1 ≠ cmpy ls r.2 ∧ (r.2, r.1) ∈ rows
theorem lk_mem {rows : Rws} {e f : En2} (h : lk rows e = some f) : (e, f) ∈ rows := by
  unfold lk at h
  obtain ⟨r, hr, rfl⟩ := Option.map_eq_some_iff.mp h
  have h1 := List.mem_of_find?_eq_some hr
  have h2 : r.1 = e := of_decide_eq_true (List.find?_some (p := fun r : En2 × En2 => decide (r.1 = e)) hr)
  rw [← h2]; exact h1
theorem mem_lk : ∀ {rows : Rws} {e f : En2}, (rows.map Prod.fst).Nodup → (e, f) ∈ rows → lk rows e = some f
  | [], _, _, _, h => nomatch h
  | (a, b) :: rows, e, f, nd, h => by
    rw [List.map_cons, List.nodup_cons] at nd
    unfold lk
    rw [List.find?_cons]
    rcases List.mem_cons.mp h with h | h
    · cases h; simp
    · have : ¬ a = e := fun z => nd.1 (List.mem_map.mpr ⟨(e, f), h, z.symm⟩)
      rw [decide_eq_false this]
      exact mem_lk nd.2 h
theorem pairing_of {ls : List Ln} {rows : Rws} (h : RowsOk ls rows) : Pairing ls (lk rows) :=
  ⟨fun q => ⟨(h.all _ (lk_mem q)).1, (h.all _ (lk_mem q)).2.1⟩, fun q => (h.all _ (lk_mem q)).2.2.1, fun q => (h.all _ (lk_mem q)).2.2.2.1, fun q => mem_lk h.nd (h.all _ (lk_mem q)).2.2.2.2⟩
theorem rows_nil (ls : List Ln) : RowsOk ls [] := ⟨List.nodup_nil, fun _ h => nomatch h⟩
theorem rows_add {ls : List Ln} {rows : Rws} {a b : En2} (h : RowsOk ls rows) (ha : EndOk ls.length a) (hb : EndOk ls.length b) (hp : plc ls a = plc ls b) (hc : cmpy ls a ≠ cmpy ls b) (ka : a ∉ rows.map Prod.fst) (kb : b ∉ rows.map Prod.fst) : RowsOk ls ((rows ++ [(a, b)]) ++ [(b, a)]) := by
  have hab : a ≠ b := fun z => hc (by rw [z])
  refine ⟨?_, fun r hr => ?_⟩
  · rw [List.map_append, List.map_append]
    refine List.nodup_append.mpr ⟨List.nodup_append.mpr ⟨h.nd, by simp, fun x hx y hy e => ?_⟩, by simp, fun x hx y hy e => ?_⟩
    · simp only [List.map_cons, List.map_nil, List.mem_singleton] at hy
      subst hy e; exact ka hx
    · simp only [List.map_cons, List.map_nil, List.mem_singleton, List.mem_append] at hx hy
      subst hy e
      rcases hx with hx | hx
      · exact kb hx
      · exact hab hx.symm
  · simp only [List.mem_append, List.mem_singleton] at hr ⊢
    rcases hr with (hr | rfl) | rfl
    · obtain ⟨h1, h2, h3, h4, h5⟩ := h.all r hr
      exact ⟨h1, h2, h3, h4, .inl (.inl h5)⟩
    · exact ⟨ha, hb, hp, hc, .inr rfl⟩
    · exact ⟨hb, ha, hp.symm, fun z => hc z.symm, .inl (.inr rfl)⟩
def eI (e : En2) : List Int := [e.1, e.2]
theorem eI_inj {e f : En2} (h : eI e = eI f) : e = f := by
  unfold eI at h
  injection h with h1 h2
  injection h2 with h2 _
  exact Prod.ext h1 h2
def tdI (rows : Rws) : List (List Int × List Int) := rows.map fun r => (eI r.1, eI r.2)
def tdD (rows : Rws) : D := tDict (tdI rows)
def tkv (rows : Rws) : List (List Key × R) := rows.map fun r => (kk (eI r.1), .dat (en r.2))
theorem getT_tdI (rows : Rws) (e : En2) : getT (tdI rows) (eI e) = (lk rows e).map eI := by
  unfold getT tdI lk
  rw [List.find?_map, Option.map_map, Option.map_map]
  have : ((fun p : List Int × List Int => decide (p.1 = eI e)) ∘ fun r : En2 × En2 => (eI r.1, eI r.2)) = fun r => decide (r.1 = e) := by
    funext r
    simp only [Function.comp]
    exact decide_eq_decide.mpr ⟨eI_inj, fun z => by rw [z]⟩
  rw [this]
  rfl
theorem tk_en (e : En2) : tkOf (en e) = some (eI e) := tkOf_of (eI e)
theorem ed_inT {rows : Rws} {e : En2} {Q : D → Prop} (q : Q (.bool (lk rows e).isSome)) : Ed (dInT (en e) (tdD rows)) Q := by
  refine ⟨_, ?_, q⟩
  unfold dInT
  rw [tk_en, show dRows (tdD rows) = some (tdI rows) from dRows_of _]
  simp only [Option.bind_some, getT_tdI, Option.isSome_map]
theorem ed_notInT {rows : Rws} {e : En2} {Q : D → Prop} (q : Q (.bool (!(lk rows e).isSome))) : Ed (dNotInT (en e) (tdD rows)) Q := by
  refine ⟨_, ?_, q⟩
  unfold dNotInT
  rw [tk_en, show dRows (tdD rows) = some (tdI rows) from dRows_of _]
  simp only [Option.bind_some, getT_tdI, Option.isSome_map]
theorem ed_ixT' {rows : Rws} {e f : En2} {Q : D → Prop} (h : lk rows e = some f) (q : Q (en f)) : Ed (dIxT (tdD rows) (en e)) Q := by
  refine ⟨_, ?_, q⟩
  unfold dIxT
  rw [tk_en, show dRows (tdD rows) = some (tdI rows) from dRows_of _]
  simp only [Option.bind_some, getT_tdI, h, Option.map_some]
  rfl
theorem ev_DK {f : D → D → Option D} {gd gk : M D} {S : Sx} {Q : D → Sx → Prop} (h : Ev (gd S) fun x S1 => ∃ rows, x = tdD rows ∧ Ev (gk S1) fun y S2 => Ed (f x y) fun z => Q z S2) : Ev (gDK f gd gk S) Q := by
  obtain ⟨x, S1, e1, rows, rfl, y, S2, e2, z, e3, q⟩ := h
  exact ⟨z, S2, by unfold gDK; simp only [e1, Option.bind_some, show dRows (tdD rows) = some (tdI rows) from dRows_of _, e2, e3], q⟩
theorem putT_new {kvs : List (List Key × R)} {k : List Key} {r : R} (h : k ∉ kvs.map (·.1)) : putT kvs k r = kvs ++ [(k, r)] := by
  unfold putT
  have : (kvs.any fun kv => decide (kv.1 = k)) = false := by
    rw [Bool.eq_false_iff]
    intro z
    obtain ⟨x, hx, e⟩ := List.any_eq_true.mp z
    exact h (List.mem_map.mpr ⟨x, hx, of_decide_eq_true e⟩)
  rw [this]
  simp
theorem putT_row {rows : Rws} {e f : En2} (h : e ∉ rows.map Prod.fst) : putT (tkv rows) (kk (eI e)) (.dat (en f)) = tkv (rows ++ [(e, f)]) := by
  rw [putT_new]
  · unfold tkv; rw [List.map_append]; rfl
  · unfold tkv
    rw [List.map_map]
    intro z
    obtain ⟨r, hr, q⟩ := List.mem_map.mp z
    exact h (List.mem_map.mpr ⟨r, hr, eI_inj (kk_inj q)⟩)
theorem es_ixT {i : Nat} {gk : M D} {S : Sx} {W : Sx → Prop} {f : En2} (h : ∃ j, S.sl[i]? = some (some (.own j)) ∧ Ev (gk S) fun k S1 => ∃ e rows, k = en e ∧ S1.os[j]? = some (some (.tR (tkv rows))) ∧ rows.length < 1000000 ∧ e ∉ rows.map Prod.fst ∧ W ⟨S1.sl, S1.os.set j (some (.tR (tkv (rows ++ [(e, f)]))))⟩) : Es (sIxT i gk (en f) S) W := by
  obtain ⟨j, e1, k, S1, e2, e, rows, rfl, e3, hz, hn, q⟩ := h
  refine ⟨_, ?_, q⟩
  unfold sIxT
  rw [e1]
  simp only [e2, Option.bind_some, tk_en, e3]
  rw [if_pos (by unfold tkv; rw [List.length_map]; exact Nat.lt_of_lt_of_le hz (by decide)), putT_row hn]
theorem frz_tkv : ∀ rows : Rws, frzRows (tkv rows) = some (tdI rows)
  | [] => rfl
  | r :: rows => by
    have ih := frz_tkv rows
    unfold tkv at ih ⊢
    simp only [List.map_cons, frzRows, unkk_kk, tk_en, Option.bind_some, ih]
    rfl
theorem ev_frzT {sl : List (Option R)} {os : List (Option Cell)} {i j : Nat} {rows : Rws} {Q : D → Sx → Prop} (h1 : sl[i]? = some (some (.own j))) (h2 : os[j]? = some (some (.tR (tkv rows)))) (q : Q (tdD rows) ⟨sl.set i (some (.dat (tdD rows))), os.set j none⟩) : Ev (gFrzT i ⟨sl, os⟩) Q := by
  refine ⟨_, _, ?_, q⟩
  unfold gFrzT
  simp only [h1, h2, frz_tkv, Option.bind_some]
  rfl
theorem eo_dictT0 {i : Nat} {S : Sx} {Z : Out → Prop} (q : Z (.nx ⟨S.sl.set i (some (.own S.os.length)), S.os ++ [some (.tR (tkv []))]⟩)) : Eo (qDictT0 i S) Z := ⟨_, rfl, q⟩
theorem en_inj2 {a b : En2} (h : en a = en b) : a = b := by
  unfold en at h
  injection h with h
  injection h with h1 h2
  injection h2 with h2 _
  exact Prod.ext (PyData.int.inj h1) (PyData.int.inj h2)
theorem find_idx {e : En2} : ∀ {es : List En2}, e ∈ es → es.findIdx? (fun y => decide (y = e)) = some (es.idxOf e)
  | [], h => nomatch h
  | x :: es, h => by
    rw [List.findIdx?_cons, List.idxOf_cons]
    by_cases z : x = e
    · simp [z]
    · have h2 : e ∈ es := by
        rcases List.mem_cons.mp h with h | h
        · exact absurd h.symm z
        · exact h
      have zb : (x == e) = false := by simpa using z
      rw [decide_eq_false z, find_idx h2, zb]
      simp
theorem map_erase (e : En2) : ∀ es : List En2, (es.map en).eraseIdx (es.idxOf e) = (es.erase e).map en
  | [] => rfl
  | x :: es => by
    rw [List.idxOf_cons, List.erase_cons]
    by_cases z : x = e
    · simp [z]
    · have := map_erase e es
      have zb : (x == e) = false := by simpa using z
      rw [zb]
      simp [this]
theorem ev_remE {S : Sx} {i : Nat} {ge : M D} {Q : D → Sx → Prop} {es : List En2} {e : En2} (hm : e ∈ es) (hi : ∃ j cs0, S.sl[i]? = some (some (.own j)) ∧ S.os[j]? = some (some (.lst cs0)) ∧ Ev (ge S) fun d S1 => S1.os[j]? = some (some (.lst (es.map en))) ∧ d = en e ∧ Q .none ⟨S1.sl, S1.os.set j (some (.lst ((es.erase e).map en)))⟩) : Ev (gRem i ge S) Q := by
  obtain ⟨j, cs0, h1, h2, d, S1, e1, h3, rfl, q⟩ := hi
  have c1 : PyData.canLayAll0 (es.map en) = true := by
    clear h3 q hm
    induction es with
    | nil => rfl
    | cons x es ih =>
      simp only [List.map_cons, PyData.canLayAll0, Bool.and_eq_true]
      exact ⟨(fine_en (isEn_en x)).1, ih⟩
  have hev : ∀ x y : En2, PyData.eqv (en x) (en y) = decide (x = y) := fun x y => by
    have := eqv_plain (en x) (en y) (good_en x).plain (good_en y).plain
    by_cases h : x = y
    · rw [decide_eq_true h]; exact this.mpr (by rw [h])
    · rw [decide_eq_false h]
      exact Bool.eq_false_iff.mpr fun z => h (en_inj2 (this.mp z))
  have hk : SeqAt.dataPlace (es.map en) (en e) = some (es.idxOf e) := by
    unfold SeqAt.dataPlace
    rw [List.findIdx?_map, ← find_idx hm]
    congr 1
    funext y
    exact hev y e
  refine ⟨_, _, ?_, q⟩
  have c3 : (en e).depth ≤ 60 := by
    have := (fine_en (isEn_en e)).2
    omega
  simp only [gRem, ownOf, Fu.cellOf, h1, h2, e1, h3, Option.bind_some, if_pos (And.intro c1 (And.intro (fine_en (isEn_en e)).1 c3)), hk, setCell, map_erase]

/-- at a place: what is left, and what is paired -/
structure AtOk (ls : List Ln) (q : Int) (rows : Rws) (es : List En2) : Prop where
  ok : RowsOk ls rows
  nd : es.Nodup
  here : ∀ e ∈ es, EndOk ls.length e ∧ plc ls e = q
  new : ∀ e ∈ es, e ∉ rows.map Prod.fst
  le : ∀ r ∈ rows, plc ls r.1 ≤ q
theorem AtOk.drop {ls : List Ln} {q : Int} {rows : Rws} {es : List En2} (h : AtOk ls q rows es) {es' : List En2} (hs : es'.Sublist es) : AtOk ls q rows es' :=
  ⟨h.ok, h.nd.sublist hs, fun e he => h.here e (hs.subset he), fun e he => h.new e (hs.subset he), h.le⟩
theorem AtOk.pair {ls : List Ln} {q : Int} {rows : Rws} {es : List En2} (h : AtOk ls q rows es) {k : Nat} {a b : En2} (hk : es[k]? = some a) (hb : b ∈ es.eraseIdx k) (hc : cmpy ls b ≠ cmpy ls a) : b ∉ (rows ++ [(a, b)]).map Prod.fst ∧ a ∉ rows.map Prod.fst ∧ AtOk ls q ((rows ++ [(a, b)]) ++ [(b, a)]) ((es.eraseIdx k).erase b) := by
  have ha : a ∈ es := List.mem_of_getElem? hk
  have hb2 : b ∈ es := List.mem_of_mem_eraseIdx hb
  have hab : b ≠ a := fun z => hc (by rw [z])
  have nda : a ∉ es.eraseIdx k := by
    intro z
    obtain ⟨i, hi, e⟩ := List.mem_eraseIdx_iff_getElem?.mp z
    obtain ⟨l1, e1⟩ := List.getElem?_eq_some_iff.mp hk
    obtain ⟨l2, e2⟩ := List.getElem?_eq_some_iff.mp e
    have := List.pairwise_iff_getElem.mp h.nd
    rcases Nat.lt_or_gt_of_ne hi with q | q
    · exact this _ _ _ _ q (by rw [e1, e2])
    · exact this _ _ _ _ q (by rw [e1, e2])
  refine ⟨?_, h.new a ha, rows_add h.ok (h.here a ha).1 (h.here b hb2).1 (by rw [(h.here a ha).2, (h.here b hb2).2]) (fun z => hc z.symm) (h.new a ha) (h.new b hb2), (h.nd.sublist ((List.erase_sublist).trans (List.eraseIdx_sublist _ _))), fun e he => ?_, fun e he => ?_, fun r hr => ?_⟩
  · rw [List.map_append, List.mem_append]
    rintro (z | z)
    · exact h.new b hb2 z
    · simp at z; exact hab z
  · exact h.here e (List.mem_of_mem_eraseIdx (List.mem_of_mem_erase he))
  · have nd2 := h.nd.sublist (List.eraseIdx_sublist es k)
    have e1 : e ≠ b := fun z => by subst z; exact (List.Nodup.not_mem_erase nd2) he
    have e2 := List.mem_of_mem_erase he
    have e3 : e ≠ a := fun z => by subst z; exact nda e2
    simp only [List.map_append, List.mem_append, List.map_cons, List.map_nil, List.mem_singleton]
    rintro ((z | z) | z)
    · exact h.new e (List.mem_of_mem_eraseIdx e2) z
    · exact e3 z
    · exact e1 z
  · simp only [List.mem_append, List.mem_singleton] at hr
    rcases hr with (hr | rfl) | rfl
    · exact h.le r hr
    · exact Int.le_of_eq (h.here a ha).2
    · exact Int.le_of_eq (h.here b hb2).2
end Rd
end Lw

set_option maxHeartbeats 4000000
namespace Lw
open PySem Fu
local macro_rules | `(tactic| walk_at "e1") => `(tactic| first
  | with_reducible refine eo_seq ?_ | (with_reducible refine then_nx' ?_; refine ⟨?_, ?_, ?_⟩; rotate_left; · (try dsimp only [List.set, List.length_cons, List.length_nil, List.cons_append, List.nil_append, Nat.zero_add, Nat.reduceAdd]); exact rfl) | with_reducible refine then_rt ?_ | with_reducible refine eo_if ?_ | with_reducible refine eo_ret ?_ | with_reducible refine eo_set ?_ | with_reducible refine eo_asg ?_ | with_reducible refine eo_drop ?_ | with_reducible refine eo_nx ?_ | with_reducible refine eo_par ?_ | with_reducible refine eo_own ?_ | with_reducible refine eo_retN ?_ | with_reducible refine eo_for ?_ | with_reducible refine eo_retO ?_
  | with_reducible refine ev_c ?_ | (with_reducible refine ev_var ?_; refine ⟨_, rfl, ?_⟩) | with_reducible refine ev_bin ?_ | with_reducible refine ev_un ?_ | with_reducible refine ev_nil ?_ | with_reducible refine ev_cons ?_
  | with_reducible refine ev_tup ?_ | with_reducible refine ev_lst ?_ | with_reducible refine ev_call ?_ | with_reducible refine ev_callF ?_ | with_reducible refine ev_isi ?_ | with_reducible refine ev_isi2 ?_ | with_reducible refine ev_andV ?_ | with_reducible refine ev_orV ?_ | with_reducible refine ev_notV ?_
  | with_reducible refine ev_B ?_ | with_reducible refine ev_and ?_ | with_reducible refine ev_or ?_ | with_reducible refine ev_not ?_ | with_reducible refine ev_yes ?_ | with_reducible refine ev_if ?_ | with_reducible refine ev_no ?_ | with_reducible refine ev_so ?_ | with_reducible refine ev_sl ?_ | with_reducible refine ev_items ?_
  | (with_reducible refine ev_ixO ?_; refine ⟨_, _, rfl, rfl, ?_⟩) | (with_reducible refine ev_varO ?_; refine ⟨_, _, rfl, rfl, ?_⟩) | (with_reducible refine ev_lenO ?_; refine ⟨_, _, rfl, rfl, ?_⟩) | (with_reducible refine ev_scrSl ?_; refine ⟨_, rfl, ?_⟩) | (with_reducible refine ev_scrLen ?_; refine ⟨_, rfl, ?_⟩) | (with_reducible refine ev_callScr ?_; refine ⟨_, rfl, ?_⟩) | (with_reducible refine ev_OL ?_; refine ⟨_, _, rfl, rfl, ?_⟩) | with_reducible refine ev_OR ?_ | with_reducible refine ev_rep ?_ | with_reducible refine ev_listRng1 ?_ | with_reducible refine eo_setO ?_
  | with_reducible refine es_name ?_ | with_reducible refine es_tup2 ?_ | with_reducible refine es_tup3 ?_
  | with_reducible refine ed_addI ?_ | with_reducible refine ed_subI ?_ | with_reducible refine ed_cmp ?_ | with_reducible refine ed_eqI ?_ | with_reducible refine ed_neI ?_ | with_reducible refine ed_slT ?_ | with_reducible refine ed_slL ?_ | with_reducible refine ed_lenT ?_ | with_reducible refine ed_lenL ?_ | with_reducible refine ed_lenS ?_ | with_reducible refine ed_inS ?_ | with_reducible refine ed_itT ?_ | with_reducible refine ed_itL ?_ | with_reducible refine ed_tupL ?_ | with_reducible refine ed_tupT ?_ | with_reducible refine ed_listL ?_ | with_reducible refine ed_listT ?_ | with_reducible refine ed_neg ?_ | with_reducible refine ed_max ?_ | with_reducible refine ed_min ?_ | with_reducible refine ed_intB ?_
  | with_reducible refine ev_rng1 ?_ | with_reducible refine ev_rng2 ?_)
local macro_rules | `(tactic| walk_at "sd") => `(tactic| first | rfl | assumption | (simp only [decide_eq_true_eq, decide_eq_false_iff_not, Bool.not_eq_true', Bool.not_eq_false', Bool.and_eq_true, Bool.or_eq_true, List.length_map, List.length_cons, List.length_nil, List.length_append, List.length_range] at *; omega))
local macro_rules | `(tactic| walk_at "e2") => `(tactic| first
  | walk_at "e1" | with_reducible refine ⟨_, rfl, ?_⟩ | with_reducible refine ⟨_, _, rfl, ?_⟩
  | with_reducible refine And.intro (Eq.refl (List.length _)) ?_ | with_reducible refine And.intro (Nat.le_of_ble_eq_true (n := List.length _) rfl) ?_
  | with_reducible refine And.intro (Eq.refl (_ : Sx)) (?_ : Ed _ _)
  | ((with_reducible refine And.intro ?_ (And.intro ?_ (?_ : Ev _ _))); (· rfl); (· rfl))
  | ((with_reducible refine ed_ixTx ?_); refine ⟨_, by decide, rfl, ?_⟩) | ((with_reducible refine ed_ixLx ?_); refine ⟨_, by decide, rfl, ?_⟩) | ((with_reducible refine es_star ?_))
  | with_reducible refine an_tt ?_ | with_reducible refine an_ft ?_ | with_reducible refine an_tf ?_ | with_reducible refine an_ff ?_ | with_reducible refine an_ntt ?_ | with_reducible refine an_nft ?_ | with_reducible refine an_ntf ?_ | with_reducible refine an_nff ?_
  | ((with_reducible refine ed_dneSelf ?_)) | ((with_reducible refine ed_deqSelf ?_))
  | ((with_reducible refine ed_ixT ?_ ?_ ?_); (· decide); (· rfl)) | ((with_reducible refine ed_ixL ?_ ?_ ?_); (· decide); (· rfl)) | ((with_reducible refine ed_at ?_ ?_ ?_); (· decide); (· rfl))
  | ((with_reducible refine ed_modI ?_ ?_); (· first | decide | omega))
  | with_reducible exact gives_nx | ((with_reducible refine gives_rt ?_); (· rfl)) | ((with_reducible refine And.intro ?_ ?_); (· exact rfl); (· with_reducible exact Eq.refl (_ : Sx))))
local macro_rules | `(tactic| walk_at "e") => `(tactic| repeat walk_at "e2")
/-- begin a def's spec -/
local macro_rules | `(tactic| walk_at "i") => `(tactic| simp only [initS, List.map_cons, List.map_nil, List.length_cons, List.length_nil, Nat.reduceAdd, Nat.reduceSub, List.replicate, List.cons_append, List.nil_append])
/-- a known truth decides -/
local macro_rules | `(tactic| walk_at "t") => `(tactic| first | ((with_reducible refine split_t ?_ ?_); (· walk_at "sd")) | ((with_reducible refine split_t' ?_ ?_); (· walk_at "sd")))
local macro_rules | `(tactic| walk_at "f") => `(tactic| first | ((with_reducible refine split_f ?_ ?_); (· walk_at "sd")) | ((with_reducible refine split_f' ?_ ?_); (· walk_at "sd")))
/-- all that is seen in a look -/
local macro_rules | `(tactic| walk_at "v") => `(tactic| (rw [sealAll_mk (by (simp only [List.set_cons_zero, List.set_cons_succ, List.map_cons, List.map_nil, sealS_none, sealS_dat, sealS_scr, sealS_own, List.getElem?_cons_zero, List.getElem?_cons_succ, sealC_lst]; rfl)) (by (simp only [List.set_cons_zero, List.set_cons_succ, List.map_cons, List.map_nil]; rfl))]))
open Rd Lw.Sp
open L2 (Key)
theorem rows_len {ls : List Ln} {rows : Rws} (h : RowsOk ls rows) : rows.length ≤ 2 * ls.length := by
  have := h.nd.length_le_of_subset (l₂ := allE ls.length) fun e he => by
    obtain ⟨r, hr, rfl⟩ := List.mem_map.mp he
    exact allE_mem.mpr (h.all r hr).1
  rw [List.length_map, allE_len] at this
  exact this
theorem set_0 {α : Type} {os : List α} {a v : α} {k : Nat} (h : os[k]? = some a) : (os.set k v)[k]? = some v := by
  rw [List.getElem?_set_self (List.getElem?_eq_some_iff.mp h).1]
theorem set_k {α : Type} {os : List α} {j k : Nat} {a v : α} (hk : os[k]? = some a) (k0 : j ≠ k) : (os.set j v)[k]? = some a := by
  rw [List.getElem?_set_ne k0]; exact hk
theorem app_k {α : Type} {os : List α} {k : Nat} {a v : α} (hk : os[k]? = some a) : (os ++ [v])[k]? = some a := by
  rw [List.getElem?_append_left (List.getElem?_eq_some_iff.mp hk).1]; exact hk
theorem app_end {α : Type} {os : List α} {v : α} : (os ++ [v])[os.length]? = some v := by simp
theorem at_lt {α : Type} {os : List α} {k : Nat} {a : α} (h : os[k]? = some a) : k < os.length := (List.getElem?_eq_some_iff.mp h).1
theorem ed_neE {a b : Int × Int} {Q : D → Prop} (q : Q (.bool (!decide (a = b)))) : Ed (dNe (en a) (en b)) Q := by
  refine ed_ne_good (good_en a) (good_en b) (fun e => ?_) (fun e => ?_)
  · rwa [decide_eq_true (en_inj2 e)] at q
  · rwa [decide_eq_false (fun z => e (by rw [z]))] at q
theorem allE_nodup (n : Nat) : (allE n).Nodup := by
  rw [← allE_range]
  refine List.pairwise_map.mpr (List.nodup_range.imp fun {a b} h q => h ?_)
  have q1 := congrArg Prod.fst q
  have q2 := congrArg Prod.snd q
  simp only at q1 q2
  omega
theorem map_eraseIdx {α β : Type} (f : α → β) : ∀ (xs : List α) (k : Nat), (xs.map f).eraseIdx k = (xs.eraseIdx k).map f
  | [], _ => rfl
  | _ :: _, 0 => rfl
  | x :: xs, k + 1 => by simp only [List.map_cons, List.eraseIdx_cons_succ, map_eraseIdx f xs k]
theorem seal_par {cs ds : List D} {os : List (Option Cell)} {k : Nat} {a b c d : D} {x7 x8 x9 x10 : Option R} (h0 : os[0]? = some (some (.lst cs))) (hk : os[k]? = some (some (.lst ds))) :
    ∃ y3 y7 y8 y9 y10 os', sealAll ⟨[some (.own 0), some (.dat a), some (.dat b), some (.own 1), some (.dat c), some (.own k), some (.dat d), x7, x8, x9, x10], os⟩ = ⟨[some (.dat (.list cs)), some (.dat a), some (.dat b), y3, some (.dat c), some (.dat (.list ds)), some (.dat d), y7, y8, y9, y10], os'⟩ := by
  refine ⟨sealS os (some (.own 1)), sealS os x7, sealS os x8, sealS os x9, sealS os x10, os.map fun _ => none, ?_⟩
  refine sealAll_mk ?_ rfl
  simp only [List.map_cons, List.map_nil, sealS_dat, sealS_scr, sealS_own, h0, hk, sealC_lst]
theorem x__law_partners {c : Nat} {cs : List D} {p v : Int} {ls : List Ln} (h : WbOk p ls) (hl : ls.length ≤ 1000) (hp : p ≤ 1000) (v0 : 0 < v) (v1 : v ≤ 1000000) (hR : Reel c cs) (hc : 6 * ls.length * p.toNat ≤ c) :
    ∃ cs' rows, m__law_partners cs [wb p ls, .int v] = some (tdD rows, cs') ∧ RowsOk ls rows ∧ Reel (c - 6 * ls.length * p.toNat) cs' := by
  have hw := web_wb p ls
  have p0 := h.p0
  obtain ⟨L, sw, hL⟩ := id hw
  have fin : ∃ d cs', m__law_partners cs [wb p ls, .int v] = some (d, cs') ∧ ∃ rows, d = tdD rows ∧ RowsOk ls rows ∧ Reel (c - 6 * ls.length * p.toNat) cs' := by
    unfold m__law_partners; refine mIO_of ?_; walk_at "i"; unfold g__law_partners
    refine eo_seq (eo_dictT0 ?_)
    walk_at "e"
    refine ed_ixQ sw (by decide) rfl ?_
    walk_at "e"
    refine ⟨by omega, by omega, ?_⟩
    generalize hN : 6 * ls.length = N at *
    refine eo_loop (fun i S => ∃ x4 x5 x6 x7 x8 x9 x10 cs rows os, S = ⟨[some (.own 0), some (.dat (wb p ls)), some (.dat (.int v)), some (.own 1), x4, x5, x6, x7, x8, x9, x10], os⟩ ∧ os[0]? = some (some (.lst cs)) ∧ os[1]? = some (some (.tR (tkv rows))) ∧ RowsOk ls rows ∧ (∀ r ∈ rows, plc ls r.1 < i) ∧ Reel (c - N * i) cs) ⟨_, _, _, _, _, _, _, cs, [], _, rfl, rfl, rfl, rows_nil ls, (fun _ h => nomatch h), by simpa using hR⟩ ?_ ?_
    · rintro i z S hz ⟨x4, x5, x6, x7, x8, x9, x10, cs, rows, os, rfl, h0, h1, hok, hlt, hR⟩
      obtain ⟨hi, rfl⟩ := rng_at hz
      have hNi : N * (i + 1) ≤ N * p.toNat := Nat.mul_le_mul_left _ (by omega)
      rw [Nat.mul_succ] at hNi ⊢
      walk_at "e"
      refine ev_lcX (xs := allE ls.length) (enc := en) (b := fun e => decide (plc ls e = (i : Int))) (g := en) ?_
      walk_at "e"
      refine Ed.of (x__law_all_ends hw (by omega)) ?_
      walk_at "e"
      refine ⟨rfl, fun e he => ?_, ?_⟩
      · have he := allE_mem.mp he
        obtain ⟨l, hl1, _⟩ := end_line rfl he
        obtain ⟨ms, m, sm, hml, hm1, hln⟩ := line_at hL hl1
        refine es_tup2 (d := .int e.1) (e := .int e.2) ?_
        refine ⟨rfl, rfl, ?_⟩
        walk_at "e"
        refine ed_ixQ sw (by decide) rfl ?_
        walk_at "e"
        refine ed_ixQ sm he.1 hm1 ?_
        walk_at "e"
        have ep : ∀ {Q : D → Prop}, Q (.int (plc ls e)) → Ed (dIx m (.int e.2)) Q := fun {Q} q => by
          unfold plc at q; rw [hl1] at q
          have h2 : e.2 = 0 ∨ e.2 = 1 := by have := he.2.2.1; have := he.2.2.2; omega
          rcases h2 with h2 | h2 <;> rw [h2] at q ⊢ <;> exact ed_ixQ hln (by decide) rfl q
        refine ep ?_
        walk_at "e"
        refine ⟨rfl, by rw [Int.zero_add], fun _ => ?_⟩
        walk_at "e"
      generalize hes : (allE ls.length).filter (fun e => decide (plc ls e = (i : Int))) = es
      have hat : AtOk ls (i : Int) rows es := by
        subst hes
        refine ⟨hok, (allE_nodup _).sublist (List.filter_sublist), fun e he => ?_, fun e he => ?_, fun r hr => by have := hlt r hr; omega⟩
        · obtain ⟨h1, h2⟩ := List.mem_filter.mp he
          exact ⟨allE_mem.mp h1, of_decide_eq_true h2⟩
        · intro z
          obtain ⟨r, hr, rfl⟩ := List.mem_map.mp z
          have := hlt r hr
          have := of_decide_eq_true (List.mem_filter.mp he).2
          omega
      have hel : es.length ≤ 2 * ls.length := by
        subst hes
        refine Nat.le_trans (List.length_filter_le _ _) ?_
        rw [allE_len]
        omega
      clear hes
      refine ⟨_, rfl, ?_⟩
      dsimp only
      have hk := app_end (os := os) (v := some (Cell.lst (es.map en)))
      have k1 := at_lt h1
      have h0 := app_k (v := some (Cell.lst (es.map en))) h0
      have h1 := app_k (v := some (Cell.lst (es.map en))) h1
      generalize os.length = k at hk k1
      generalize os ++ _ = os at h0 h1 hk
      walk_at "e1"
      refine eo_while (fun m S => ∃ x6 x7 x8 x9 x10 cs rows os es, S = ⟨[some (.own 0), some (.dat (wb p ls)), some (.dat (.int v)), some (.own 1), some (.dat (.int (0 + (i : Int)))), some (.own k), x6, x7, x8, x9, x10], os⟩ ∧ os[0]? = some (some (.lst cs)) ∧ os[1]? = some (some (.tR (tkv rows))) ∧ os[k]? = some (some (.lst (es.map en))) ∧ AtOk ls (i : Int) rows es ∧ es.length ≤ 2 * ls.length ∧ m = es.length ∧ Reel (c - N * i - N + 3 * es.length) cs) (fun m S hI => ?_) 100000 es.length _ (by omega) ⟨_, _, _, _, _, cs, rows, os, es, rfl, h0, h1, hk, hat, hel, rfl, hR.mono (by omega)⟩
      clear hR h0 h1 hk hat hel hok hlt
      obtain ⟨x6, x7, x8, x9, x10, cs, rows, os, es, rfl, h0, h1, hk, hat, hel, rfl, hR⟩ := hI
      walk_at "e1"
      refine ev_OL ⟨_, _, rfl, hk, ?_⟩
      walk_at "e"
      refine ⟨_, hk, ?_⟩
      refine ed_ne_nil (n := 1) (fun d hd => by obtain ⟨e, _, rfl⟩ := List.mem_map.mp hd; exact fine_en (isEn_en e)) ?_
      walk_at "e"
      refine ⟨fun hne => ?_, fun he => ?_⟩
      · have hpos : 0 < es.length := by
          cases es with
          | nil => simp at hne
          | cons a l => simp
        walk_at "e"
        refine ev_popAt ⟨_, _, rfl, hk, ?_⟩
        refine ev_drawR ⟨_, rfl, ?_⟩
        walk_at "e1"
        refine ev_lenO ⟨_, _, rfl, hk, ?_⟩
        walk_at "e"
        refine ⟨_, _, _, h0, rfl, hR, by omega, by rw [List.length_map]; omega, by rw [List.length_map]; omega, fun u cs' a b hR => ?_⟩
        rw [List.length_map] at b
        have k0 : (0 : Nat) ≠ k := by omega
        have h0 := set_0 (v := some (Cell.lst cs')) h0
        have h1 := set_k (v := some (Cell.lst cs')) h1 (show (0 : Nat) ≠ 1 by omega)
        have hk := set_k (v := some (Cell.lst cs')) hk k0
        dsimp only
        generalize os.set 0 _ = os at h0 h1 hk
        have hu : u.toNat < es.length := by omega
        have hga : es[u.toNat]? = some es[u.toNat] := List.getElem?_eq_getElem hu
        generalize es[u.toNat] = a0 at hga
        refine ⟨_, _, hk, rfl, a, en a0, by rw [List.getElem?_map, hga]; rfl, ?_⟩
        have h0 := set_k (v := some (Cell.lst ((es.map en).eraseIdx u.toNat))) h0 (show k ≠ 0 by omega)
        have h1 := set_k (v := some (Cell.lst ((es.map en).eraseIdx u.toNat))) h1 (show k ≠ 1 by omega)
        have hk := set_0 (v := some (Cell.lst ((es.map en).eraseIdx u.toNat))) hk
        generalize os.set k _ = os at h0 h1 hk
        have hrl : (es.eraseIdx u.toNat).length + 1 = es.length := by rw [List.length_eraseIdx, if_pos hu]; omega
        have ha0 := hat.here a0 (List.mem_of_getElem? hga)
        have hem : (es.map en).eraseIdx u.toNat = (es.eraseIdx u.toNat).map en := map_eraseIdx ..
        rw [hem] at hk
        walk_at "e1"
        walk_at "e1"
        walk_at "e1"
        refine ev_viewN ?_
        obtain ⟨y3, y7, y8, y9, y10, os', sv⟩ := seal_par (a := wb p ls) (b := .int v) (c := .int (0 + (i : Int))) (d := en a0) (x7 := x7) (x8 := x8) (x9 := x9) (x10 := x10) h0 hk
        rw [sv]
        clear sv
        refine ev_lcX (xs := es.eraseIdx u.toNat) (enc := en) (b := fun e => !decide (cmpy ls e = cmpy ls a0)) (g := en) ?_
        walk_at "e"
        refine ⟨rfl, fun e hem => ?_, ?_⟩
        · have he := (hat.here e (List.mem_of_mem_eraseIdx hem)).1
          obtain ⟨l, hl1, _⟩ := end_line rfl he
          obtain ⟨l2, hl2, _⟩ := end_line rfl ha0.1
          obtain ⟨ms, m, sm, hml, hm1, hln⟩ := line_at hL hl1
          obtain ⟨ms2, m2, sm2, hml2, hm2, hln2⟩ := line_at hL hl2
          walk_at "e"
          refine ed_ixQ sw (by decide) rfl ?_
          walk_at "e"
          refine ed_ixQ (isEn_en e) (by decide) rfl ?_
          walk_at "e"
          refine ed_ixQ sm he.1 hm1 ?_
          walk_at "e"
          refine ed_ixQ hln (by decide) rfl ?_
          walk_at "e"
          refine ed_ixQ sw (by decide) rfl ?_
          walk_at "e"
          refine ed_ixQ (isEn_en a0) (by decide) rfl ?_
          walk_at "e"
          refine ed_ixQ sm2 ha0.1.1 hm2 ?_
          walk_at "e"
          refine ed_ixQ hln2 (by decide) rfl ?_
          have c1 : cmpy ls e = l.2.2 := by unfold cmpy; rw [hl1]
          have c2 : cmpy ls a0 = l2.2.2 := by unfold cmpy; rw [hl2]
          refine Ed.of (dNe_ch (by rw [← c1]; exact cmpy_ok h he) (by rw [← c2]; exact cmpy_ok h ha0.1)) ?_
          rw [c1, c2]
          refine ⟨_, rfl, rfl, rfl, fun _ => ?_⟩
          walk_at "e"
        have hsome : ∀ e ∈ (es.eraseIdx u.toNat).filter (fun e => !decide (cmpy ls e = cmpy ls a0)), e ∈ es.eraseIdx u.toNat ∧ cmpy ls e ≠ cmpy ls a0 := fun e he => ⟨(List.mem_filter.mp he).1, by simpa using (List.mem_filter.mp he).2⟩
        have hsl : ((es.eraseIdx u.toNat).filter (fun e => !decide (cmpy ls e = cmpy ls a0))).length ≤ es.length := Nat.le_trans (List.length_filter_le _ _) (by omega)
        generalize (es.eraseIdx u.toNat).filter (fun e => !decide (cmpy ls e = cmpy ls a0)) = sm at hsome hsl
        refine ⟨_, rfl, hards_map fun _ => rfl, ?_⟩
        walk_at "e"
        refine ed_ne_nil (n := 1) (fun d hd => by obtain ⟨e, _, rfl⟩ := List.mem_map.mp hd; exact fine_en (isEn_en e)) ?_
        walk_at "e"
        have hat1 : AtOk ls (i : Int) rows (es.eraseIdx u.toNat) := hat.drop (List.eraseIdx_sublist _ _)
        refine ⟨fun hE => ?_, fun hE => ?_⟩
        · have hsp : 0 < sm.length := by
            cases sm with
            | nil => simp at hE
            | cons a l => simp
          walk_at "e"
          refine ev_drawR ⟨_, rfl, ?_⟩
          walk_at "e"
          refine ⟨_, _, _, h0, rfl, hR, by omega, by omega, by omega, fun w cs' wa wb hR => ?_⟩
          have h0 := set_0 (v := some (Cell.lst cs')) h0
          have h1 := set_k (v := some (Cell.lst cs')) h1 (show (0 : Nat) ≠ 1 by omega)
          have hk := set_k (v := some (Cell.lst cs')) hk k0
          dsimp only
          generalize os.set 0 _ = os at h0 h1 hk
          walk_at "e"
          refine ⟨fun hw0 => ?_, fun hw0 => ?_⟩
          · walk_at "e"
            refine ev_drawR ⟨_, rfl, ?_⟩
            walk_at "e"
            refine ⟨_, _, _, h0, rfl, hR, by omega, by rw [List.length_map]; omega, by rw [List.length_map]; omega, fun w cs' wa wb hR => ?_⟩
            rw [List.length_map] at wb
            have h0 := set_0 (v := some (Cell.lst cs')) h0
            have h1 := set_k (v := some (Cell.lst cs')) h1 (show (0 : Nat) ≠ 1 by omega)
            have hk := set_k (v := some (Cell.lst cs')) hk k0
            dsimp only
            generalize os.set 0 _ = os at h0 h1 hk
            have hwl : w.toNat < sm.length := by omega
            have hgb : sm[w.toNat]? = some sm[w.toNat] := List.getElem?_eq_getElem hwl
            generalize sm[w.toNat] = b0 at hgb
            obtain ⟨hb1, hb2⟩ := hsome b0 (List.mem_of_getElem? hgb)
            refine ed_ixL wa (by rw [List.getElem?_map, hgb]; rfl) ?_
            walk_at "e"
            refine ev_remE hb1 ⟨_, _, rfl, hk, ?_⟩
            walk_at "e"
            refine ⟨hk, rfl, ?_⟩
            have h0 := set_k (v := some (Cell.lst (((es.eraseIdx u.toNat).erase b0).map en))) h0 (show k ≠ 0 by omega)
            have h1 := set_k (v := some (Cell.lst (((es.eraseIdx u.toNat).erase b0).map en))) h1 (show k ≠ 1 by omega)
            have hk := set_0 (v := some (Cell.lst (((es.eraseIdx u.toNat).erase b0).map en))) hk
            dsimp only
            generalize os.set k _ = os at h0 h1 hk
            obtain ⟨n1, n2, hat2⟩ := hat.pair hga hb1 hb2
            have hlr := rows_len hat2.ok
            rw [List.length_append, List.length_append] at hlr
            simp only [List.length_cons, List.length_nil] at hlr
            walk_at "e"
            refine es_ixT ⟨_, rfl, ?_⟩
            walk_at "e"
            refine ⟨a0, rows, rfl, h1, by omega, n2, ?_⟩
            have h0 := set_k (v := some (Cell.tR (tkv (rows ++ [(a0, b0)])))) h0 (show (1 : Nat) ≠ 0 by omega)
            have hk := set_k (v := some (Cell.tR (tkv (rows ++ [(a0, b0)])))) hk (show 1 ≠ k by omega)
            have h1 := set_0 (v := some (Cell.tR (tkv (rows ++ [(a0, b0)])))) h1
            dsimp only
            generalize os.set 1 _ = os at h0 h1 hk
            walk_at "e"
            refine es_ixT ⟨_, rfl, ?_⟩
            walk_at "e"
            refine ⟨b0, rows ++ [(a0, b0)], rfl, h1, by rw [List.length_append]; simp only [List.length_cons, List.length_nil]; omega, n1, ?_⟩
            have h0 := set_k (v := some (Cell.tR (tkv ((rows ++ [(a0, b0)]) ++ [(b0, a0)])))) h0 (show (1 : Nat) ≠ 0 by omega)
            have hk := set_k (v := some (Cell.tR (tkv ((rows ++ [(a0, b0)]) ++ [(b0, a0)])))) hk (show 1 ≠ k by omega)
            have h1 := set_0 (v := some (Cell.tR (tkv ((rows ++ [(a0, b0)]) ++ [(b0, a0)])))) h1
            dsimp only
            generalize os.set 1 _ = os at h0 h1 hk
            have hel2 : ((es.eraseIdx u.toNat).erase b0).length + 2 = es.length := by
              rw [List.length_erase_of_mem hb1]
              have : 0 < (es.eraseIdx u.toNat).length := List.length_pos_of_mem hb1
              omega
            walk_at "e"
            exact ⟨_, _, rfl, by omega, _, _, _, _, _, cs', _, os, _, rfl, h0, h1, hk, hat2, by omega, rfl, hR.mono (by omega)⟩
          · walk_at "e"
            exact ⟨_, _, rfl, by omega, _, _, _, _, _, cs', _, os, _, rfl, h0, h1, hk, hat1, by omega, rfl, hR.mono (by omega)⟩
        · walk_at "e"
          exact ⟨_, _, rfl, by omega, _, _, _, _, _, cs', _, os, _, rfl, h0, h1, hk, hat1, by omega, rfl, hR.mono (by omega)⟩
      · exact ⟨_, rfl, _, _, _, _, _, _, _, cs, rows, os, rfl, h0, h1, hat.ok, fun r hr => by have := hat.le r hr; omega, hR.mono (by omega)⟩
    · rintro S ⟨x4, x5, x6, x7, x8, x9, x10, cs, rows, os, rfl, h0, h1, hok, hlt, hR⟩
      rw [rng_len] at hR
      walk_at "e"
      refine ev_frzT rfl h1 ?_
      have h0' : (os.set 1 (none : Option Cell))[0]? = some (some (Cell.lst cs)) := set_k h0 (by omega)
      exact ⟨cs, by show Fu.cellOf ⟨_, os.set 1 none⟩ 0 = _; unfold Fu.cellOf; simp only [h0'], rows, rfl, hok, hR⟩
  obtain ⟨d, cs', e, rows, rfl, h1, h2⟩ := fin
  exact ⟨cs', rows, e, h1, h2⟩
end Lw

set_option maxHeartbeats 4000000
namespace Lw
open PySem Fu
local macro_rules | `(tactic| walk_at "e1") => `(tactic| first
  | with_reducible refine eo_seq ?_ | (with_reducible refine then_nx' ?_; refine ⟨?_, ?_, ?_⟩; rotate_left; · (try dsimp only [List.set, List.length_cons, List.length_nil, List.cons_append, List.nil_append, Nat.zero_add, Nat.reduceAdd]); exact rfl) | with_reducible refine then_rt ?_ | with_reducible refine eo_if ?_ | with_reducible refine eo_ret ?_ | with_reducible refine eo_set ?_ | with_reducible refine eo_asg ?_ | with_reducible refine eo_drop ?_ | with_reducible refine eo_nx ?_ | with_reducible refine eo_par ?_ | with_reducible refine eo_own ?_ | with_reducible refine eo_retN ?_ | with_reducible refine eo_for ?_ | with_reducible refine eo_retO ?_
  | with_reducible refine ev_c ?_ | (with_reducible refine ev_var ?_; refine ⟨_, rfl, ?_⟩) | with_reducible refine ev_bin ?_ | with_reducible refine ev_un ?_ | with_reducible refine ev_nil ?_ | with_reducible refine ev_cons ?_
  | with_reducible refine ev_tup ?_ | with_reducible refine ev_lst ?_ | with_reducible refine ev_call ?_ | with_reducible refine ev_callF ?_ | with_reducible refine ev_isi ?_ | with_reducible refine ev_isi2 ?_ | with_reducible refine ev_andV ?_ | with_reducible refine ev_orV ?_ | with_reducible refine ev_notV ?_
  | with_reducible refine ev_B ?_ | with_reducible refine ev_and ?_ | with_reducible refine ev_or ?_ | with_reducible refine ev_not ?_ | with_reducible refine ev_yes ?_ | with_reducible refine ev_if ?_ | with_reducible refine ev_no ?_ | with_reducible refine ev_so ?_ | with_reducible refine ev_sl ?_ | with_reducible refine ev_items ?_
  | (with_reducible refine ev_ixO ?_; refine ⟨_, _, rfl, rfl, ?_⟩) | (with_reducible refine ev_varO ?_; refine ⟨_, _, rfl, rfl, ?_⟩) | (with_reducible refine ev_lenO ?_; refine ⟨_, _, rfl, rfl, ?_⟩) | (with_reducible refine ev_scrSl ?_; refine ⟨_, rfl, ?_⟩) | (with_reducible refine ev_scrLen ?_; refine ⟨_, rfl, ?_⟩) | (with_reducible refine ev_callScr ?_; refine ⟨_, rfl, ?_⟩) | (with_reducible refine ev_OL ?_; refine ⟨_, _, rfl, rfl, ?_⟩) | with_reducible refine ev_OR ?_ | with_reducible refine ev_rep ?_ | with_reducible refine ev_listRng1 ?_ | with_reducible refine eo_setO ?_
  | with_reducible refine es_name ?_ | with_reducible refine es_tup2 ?_ | with_reducible refine es_tup3 ?_
  | with_reducible refine ed_addI ?_ | with_reducible refine ed_subI ?_ | with_reducible refine ed_cmp ?_ | with_reducible refine ed_eqI ?_ | with_reducible refine ed_neI ?_ | with_reducible refine ed_slT ?_ | with_reducible refine ed_slL ?_ | with_reducible refine ed_lenT ?_ | with_reducible refine ed_lenL ?_ | with_reducible refine ed_lenS ?_ | with_reducible refine ed_inS ?_ | with_reducible refine ed_itT ?_ | with_reducible refine ed_itL ?_ | with_reducible refine ed_tupL ?_ | with_reducible refine ed_tupT ?_ | with_reducible refine ed_listL ?_ | with_reducible refine ed_listT ?_ | with_reducible refine ed_neg ?_ | with_reducible refine ed_max ?_ | with_reducible refine ed_min ?_ | with_reducible refine ed_intB ?_
  | with_reducible refine ev_rng1 ?_ | with_reducible refine ev_rng2 ?_)
local macro_rules | `(tactic| walk_at "sd") => `(tactic| first | rfl | assumption | (simp only [decide_eq_true_eq, decide_eq_false_iff_not, Bool.not_eq_true', Bool.not_eq_false', Bool.and_eq_true, Bool.or_eq_true, List.length_map, List.length_cons, List.length_nil, List.length_append, List.length_range] at *; omega))
local macro_rules | `(tactic| walk_at "e2") => `(tactic| first
  | walk_at "e1" | with_reducible refine ⟨_, rfl, ?_⟩ | with_reducible refine ⟨_, _, rfl, ?_⟩
  | with_reducible refine And.intro (Eq.refl (List.length _)) ?_ | with_reducible refine And.intro (Nat.le_of_ble_eq_true (n := List.length _) rfl) ?_
  | with_reducible refine And.intro (Eq.refl (_ : Sx)) (?_ : Ed _ _)
  | ((with_reducible refine And.intro ?_ (And.intro ?_ (?_ : Ev _ _))); (· rfl); (· rfl))
  | ((with_reducible refine ed_ixTx ?_); refine ⟨_, by decide, rfl, ?_⟩) | ((with_reducible refine ed_ixLx ?_); refine ⟨_, by decide, rfl, ?_⟩) | ((with_reducible refine es_star ?_))
  | with_reducible refine an_tt ?_ | with_reducible refine an_ft ?_ | with_reducible refine an_tf ?_ | with_reducible refine an_ff ?_ | with_reducible refine an_ntt ?_ | with_reducible refine an_nft ?_ | with_reducible refine an_ntf ?_ | with_reducible refine an_nff ?_
  | ((with_reducible refine ed_dneSelf ?_)) | ((with_reducible refine ed_deqSelf ?_))
  | ((with_reducible refine ed_ixT ?_ ?_ ?_); (· decide); (· rfl)) | ((with_reducible refine ed_ixL ?_ ?_ ?_); (· decide); (· rfl)) | ((with_reducible refine ed_at ?_ ?_ ?_); (· decide); (· rfl))
  | ((with_reducible refine ed_modI ?_ ?_); (· first | decide | omega))
  | with_reducible exact gives_nx | ((with_reducible refine gives_rt ?_); (· rfl)) | ((with_reducible refine And.intro ?_ ?_); (· exact rfl); (· with_reducible exact Eq.refl (_ : Sx))))
local macro_rules | `(tactic| walk_at "e") => `(tactic| repeat walk_at "e2")
/-- begin a def's spec -/
local macro_rules | `(tactic| walk_at "i") => `(tactic| simp only [initS, List.map_cons, List.map_nil, List.length_cons, List.length_nil, Nat.reduceAdd, Nat.reduceSub, List.replicate, List.cons_append, List.nil_append])
/-- a known truth decides -/
local macro_rules | `(tactic| walk_at "t") => `(tactic| first | ((with_reducible refine split_t ?_ ?_); (· walk_at "sd")) | ((with_reducible refine split_t' ?_ ?_); (· walk_at "sd")))
local macro_rules | `(tactic| walk_at "f") => `(tactic| first | ((with_reducible refine split_f ?_ ?_); (· walk_at "sd")) | ((with_reducible refine split_f' ?_ ?_); (· walk_at "sd")))
/-- all that is seen in a look -/
local macro_rules | `(tactic| walk_at "v") => `(tactic| (rw [sealAll_mk (by (simp only [List.set_cons_zero, List.set_cons_succ, List.map_cons, List.map_nil, sealS_none, sealS_dat, sealS_scr, sealS_own, List.getElem?_cons_zero, List.getElem?_cons_succ, sealC_lst]; rfl)) (by (simp only [List.set_cons_zero, List.set_cons_succ, List.map_cons, List.map_nil]; rfl))]))
open Rd Lw.Sp
open L2 (Key)
def pcD (x : Pc) : D := .tuple [.str (wordS x.1), lE x.2]
theorem isPc_pcD (x : Pc) : IsPc (pcD x) x := ⟨_, sq_t _, ride_lE _⟩
theorem isPcs_of {d : D} {ps : List Pc} (s : Sq d (ps.map pcD)) : IsPcs d ps := ⟨ps.map fun x => (pcD x, x), by rw [List.map_map]; exact s, by rw [List.map_map]; exact (List.map_id _).symm, fun q hq => by
  obtain ⟨l, _, rfl⟩ := List.mem_map.mp hq
  exact isPc_pcD l⟩
theorem mF_ex {n : Nat} {g : Sx → Option Out} {ds : List D} {Q : D → Prop} (h : Eo (g ⟨initS n ds, []⟩) fun o => ∃ z S, o = .rt z S ∧ Q z) : ∃ z, mF n g ds = some z ∧ Q z := by
  obtain ⟨o, e, z, S, rfl, q⟩ := h
  exact ⟨z, mF_of ⟨_, e, rfl⟩, q⟩
theorem pcs_len {ls : List Ln} : ∀ {ps : List Pc}, (∀ x ∈ ps, pcB ls x = true) → ps.length ≤ (lnsOf ps).length
  | [], _ => Nat.le_refl _
  | x :: ps, h => by
    have ih := pcs_len fun y hy => h y (List.mem_cons_of_mem _ hy)
    have hx := h x List.mem_cons_self
    have hr : rideB ls x.2 = true := by
      unfold pcB at hx
      split at hx
      · unfold roundB at hx; rw [Bool.and_eq_true] at hx; exact hx.1
      · exact hx
    have := List.length_pos_iff.mpr (rideB_ends hr).1
    unfold lnsOf at *
    rw [List.flatMap_cons, List.length_append, List.length_map, List.length_cons]
    omega
theorem x__law_pieces {w : D} {p : Int} {ls : List Ln} {rows : Rws} (hw : Web w p ls) (h : WbOk p ls) (hl : ls.length ≤ 1000) (hr : RowsOk ls rows) :
    ∃ ps : List Pc, m__law_pieces [w, tdD rows] = some (.list (ps.map pcD)) ∧ (∀ x ∈ ps, pcB ls x = true) ∧ (lnsOf ps).Perm ((List.range ls.length).map fun i : Nat => (i : Int)) := by
  have pr := pairing_of hr
  have fin : ∃ d, m__law_pieces [w, tdD rows] = some d ∧ ∃ ps : List Pc, d = .list (ps.map pcD) ∧ (∀ x ∈ ps, pcB ls x = true) ∧ (lnsOf ps).Perm ((List.range ls.length).map fun i : Nat => (i : Int)) := by
    unfold m__law_pieces; refine mF_ex ?_; walk_at "i"; unfold g__law_pieces
    walk_at "e"
    refine Ed.of (x__law_all_ends hw (by omega)) ?_
    walk_at "e"
    refine eo_loop (fun i S => ∃ x5 x6 x7 x8 G ps os, S = ⟨[some (.dat w), some (.dat (tdD rows)), some (.own 0), some (.own 1), some (.dat (.list ((allE ls.length).map en))), x5, x6, x7, x8], os⟩ ∧ os[0]? = some (some (.lst (ps.map pcD))) ∧ os[1]? = some (some (.lst (G.map PyData.int))) ∧ Told ls (lk rows) G ps ∧ (1 ≤ i → Full ls.length (lk rows) G) ∧ (2 ≤ i → ∀ e, EndOk ls.length e → e.1 ∈ G)) ⟨_, _, _, _, [], [], _, rfl, rfl, rfl, told_nil _ _, (fun h => absurd h (by omega)), fun h => absurd h (by omega)⟩ ?_ ?_
    · rintro i z S hz ⟨x5, x6, x7, x8, G, ps, os, rfl, h0, h1, ht, hf, _⟩
      obtain ⟨b, rfl, hib⟩ : ∃ b : Bool, z = .str (wordS b) ∧ ((b = false ∧ i = 0) ∨ (b = true ∧ i = 1)) := by
        match i, hz with
        | 0, hz => exact ⟨false, (Option.some.inj hz).symm, .inl ⟨rfl, rfl⟩⟩
        | 1, hz => exact ⟨true, (Option.some.inj hz).symm, .inr ⟨rfl, rfl⟩⟩
        | n + 2, hz => simp at hz
      have hf : b = true → Full ls.length (lk rows) G := fun hb => hf (by rcases hib with ⟨q, _⟩ | ⟨_, q⟩; rw [q] at hb; cases hb; omega)
      walk_at "e"
      dsimp only [List.set]
      clear hz
      refine eo_loopX (xs := allE ls.length) (enc := en) (fun j S => ∃ x6 x7 x8 G ps os, S = ⟨[some (.dat w), some (.dat (tdD rows)), some (.own 0), some (.own 1), some (.dat (.list ((allE ls.length).map en))), some (.dat (.str (wordS b))), x6, x7, x8], os⟩ ∧ os[0]? = some (some (.lst (ps.map pcD))) ∧ os[1]? = some (some (.lst (G.map PyData.int))) ∧ Told ls (lk rows) G ps ∧ (b = true → Full ls.length (lk rows) G) ∧ ∀ j' < j, ∀ e, (allE ls.length)[j']? = some e → (b = true ∨ lk rows e = none) → e.1 ∈ G) ⟨_, _, _, G, ps, os, rfl, h0, h1, ht, hf, fun j' h => absurd h (by omega)⟩ ?_ ?_
      · rintro j s S hs ⟨x6, x7, x8, G, ps, os, rfl, h0, h1, ht, hf, hdone⟩
        have hs0 : EndOk ls.length s := allE_mem.mp (List.mem_of_getElem? hs)
        have step : ∀ {G2 : List Int}, (∀ x ∈ G, x ∈ G2) → ((b = true ∨ lk rows s = none) → s.1 ∈ G2) → ∀ j' < j + 1, ∀ e, (allE ls.length)[j']? = some e → (b = true ∨ lk rows e = none) → e.1 ∈ G2 := by
          intro G2 hsub hg j' hj e he hb
          by_cases hjj : j' = j
          · subst hjj; rw [hs] at he; cases he; exact hg hb
          · exact hsub _ (hdone j' (by omega) e he hb)
        walk_at "e1"
        dsimp only [List.set]
        refine Eo.mono (P := fun o => o = .nx ⟨[some (.dat w), some (.dat (tdD rows)), some (.own 0), some (.own 1), some (.dat (.list ((allE ls.length).map en))), some (.dat (.str (wordS b))), some (.dat (en s)), x7, x8], os⟩ ∧ (s.1 ∈ G ∨ (b = false ∧ lk rows s ≠ none)) ∨ (∃ G2 ps2 x7 x8 os2, o = .nx ⟨[some (.dat w), some (.dat (tdD rows)), some (.own 0), some (.own 1), some (.dat (.list ((allE ls.length).map en))), some (.dat (.str (wordS b))), some (.dat (en s)), x7, x8], os2⟩ ∧ os2[0]? = some (some (.lst (ps2.map pcD))) ∧ os2[1]? = some (some (.lst (G2.map PyData.int))) ∧ Told ls (lk rows) G2 ps2 ∧ (∃ H, G2 = G ++ H) ∧ s.1 ∈ G2)) ?_ ?_
        · walk_at "e"
          refine ed_ixQ (isEn_en s) (by decide) rfl ?_
          refine ⟨_, _, rfl, h1, ?_⟩
          refine ed_notInI ?_
          refine ⟨_, rfl, _, rfl, fun hg => ?_, fun hg => ?_⟩
          rotate_left
          · walk_at "e"
            exact .inl ⟨rfl, .inl (by simpa using hg)⟩
          have hsG : s.1 ∉ G := by simpa using hg
          have tor : Ev (gOr (gB (gBin dEq (gVar 5) (gC (.str "round")))) (gB (gBin dNotInT (gVar 6) (gVar 1))) ⟨[some (.dat w), some (.dat (tdD rows)), some (.own 0), some (.own 1), some (.dat (.list ((allE ls.length).map en))), some (.dat (.str (wordS b))), some (.dat (en s)), x7, x8], os⟩) fun c S1 => S1 = ⟨[some (.dat w), some (.dat (tdD rows)), some (.own 0), some (.own 1), some (.dat (.list ((allE ls.length).map en))), some (.dat (.str (wordS b))), some (.dat (en s)), x7, x8], os⟩ ∧ (c = true ↔ (b = true ∨ lk rows s = none)) := by
            walk_at "e"
            refine Ed.of (dEq_str _ _) ?_
            refine ⟨_, rfl, fun hb => ?_, fun hb => ?_⟩
            · walk_at "e"
              refine Rd.ed_notInT ?_
              refine ⟨_, rfl, rfl, ?_⟩
              have hb : b = false := by cases b with | true => simp [wordS] at hb | false => rfl
              rw [hb]
              cases lk rows s <;> simp
            · refine ⟨rfl, ?_⟩
              have hb : b = true := by cases b with | true => rfl | false => exact absurd (of_decide_eq_true hb) (by decide +kernel)
              rw [hb]; simp
          refine tor.mono ?_
          rintro c S1 ⟨rfl, hc⟩
          refine ⟨fun hc1 => ?_, fun hc1 => ?_⟩
          rotate_left
          · walk_at "e"
            refine .inl ⟨rfl, .inr ?_⟩
            rw [hc1] at hc
            have hc : ¬ (b = true ∨ lk rows s = none) := fun z => by cases hc.mpr z
            exact ⟨by cases b with | true => exact absurd (.inl rfl) hc | false => rfl, fun z => hc (.inr z)⟩
          have hbn := hc.mp hc1
          clear hc hc1 tor
          walk_at "e"
          have hk := app_end (os := os) (v := some (Cell.lst [en s]))
          have k1 := at_lt h1
          have h0 := app_k (v := some (Cell.lst [en s])) h0
          have h1 := app_k (v := some (Cell.lst [en s])) h1
          generalize os.length = k at hk k1
          generalize os ++ _ = os at h0 h1 hk
          refine eo_while (fun m S => ∃ os es, S = ⟨[some (.dat w), some (.dat (tdD rows)), some (.own 0), some (.own 1), some (.dat (.list ((allE ls.length).map en))), some (.dat (.str (wordS b))), some (.dat (en s)), some (.own k), x8], os⟩ ∧ os[0]? = some (some (.lst (ps.map pcD))) ∧ os[1]? = some (some (.lst (G.map PyData.int))) ∧ os[k]? = some (some (.lst (es.map en))) ∧ Row ls.length (lk rows) s es ∧ m + es.length = 1001) (fun m S hI => ?_) 100000 1000 _ (by omega) ⟨os, [s], rfl, h0, h1, hk, row_one pr s hs0, rfl⟩
          clear h0 h1 hk
          obtain ⟨os, es, rfl, h0, h1, hk, hrow, hm⟩ := hI
          have hlast := last_mem (row_ne pr hrow)
          have hlast2 : (es.map en).getLast? = some (en (lastE es)) := by rw [List.getLast?_map, hlast.1]; rfl
          have hlen := row_len pr hrow
          have oth : ∀ {Q : D → Sx → Prop}, Q (en (lastE es)) ⟨[some (.dat w), some (.dat (tdD rows)), some (.own 0), some (.own 1), some (.dat (.list ((allE ls.length).map en))), some (.dat (.str (wordS b))), some (.dat (en s)), some (.own k), x8], os⟩ → Ev (gIxO 7 (gUn dNeg (gC (.int 1))) ⟨[some (.dat w), some (.dat (tdD rows)), some (.own 0), some (.own 1), some (.dat (.list ((allE ls.length).map en))), some (.dat (.str (wordS b))), some (.dat (en s)), some (.own k), x8], os⟩) Q := fun {Q} q => by
            refine ev_ixO ⟨_, _, rfl, hk, ?_⟩
            walk_at "e"
            refine ed_atLast hlast2 ?_
            exact q
          have fin : (∀ f, nx (lk rows) (lastE es) = some f → f = s) → Eo ((qSeq (qDrop (gExt 3 (gLc (gItems (gVar 7)) (sName 8) gYes (gBin dIx (gVar 8) (gC (PyData.int 0))) [8]))) (qDrop (gApp 2 (gTup (gCons (gVar 5) (gCons (gVar 7) gNil))))))  ⟨[some (.dat w), some (.dat (tdD rows)), some (.own 0), some (.own 1), some (.dat (.list ((allE ls.length).map en))), some (.dat (.str (wordS b))), some (.dat (en s)), some (.own k), x8], os⟩) fun o => (∃ G2 ps2 x7 x8 os2, o = .nx ⟨[some (.dat w), some (.dat (tdD rows)), some (.own 0), some (.own 1), some (.dat (.list ((allE ls.length).map en))), some (.dat (.str (wordS b))), some (.dat (en s)), x7, x8], os2⟩ ∧ os2[0]? = some (some (.lst (ps2.map pcD))) ∧ os2[1]? = some (some (.lst (G2.map PyData.int))) ∧ Told ls (lk rows) G2 ps2 ∧ (∃ H, G2 = G ++ H) ∧ s.1 ∈ G2) := by
            intro hex
            have key : Told ls (lk rows) (G ++ es.map Prod.fst) (ps ++ [(b, es)]) := by
              cases b with
              | true => exact ht.round pr (hf rfl) hrow hsG hex
              | false => exact ht.ride pr hrow hsG (by rcases hbn with z | z; cases z; exact z) hex
            have hGl := key.nd
            have hGs : (G ++ es.map Prod.fst).length ≤ ls.length := by
              have := key.nd.length_le_of_subset (l₂ := (List.range ls.length).map fun i : Nat => (i : Int)) fun l hl => by
                obtain ⟨a1, a2⟩ := key.inn l hl
                exact List.mem_map.mpr ⟨l.toNat, List.mem_range.mpr (by omega), by omega⟩
              simpa using this
            rw [List.length_append, List.length_map] at hGs
            have hpl : ps.length ≤ G.length := by rw [← ht.lns]; exact pcs_len ht.all
            walk_at "e"
            refine ev_ext ⟨_, _, rfl, h1, ?_⟩
            refine ev_mapX (xs := es) (enc := en) (g := fun e => .int e.1) ?_
            walk_at "e"
            refine ev_varO ⟨_, _, rfl, hk, ?_⟩
            walk_at "e"
            refine ⟨rfl, fun e _ => ?_, ?_⟩
            · walk_at "e"
              refine ed_ixQ (isEn_en e) (by decide) rfl ?_
              exact ⟨rfl, rfl⟩
            have h0 := set_k (v := (none : Option Cell)) h0 (show k ≠ 0 by omega)
            have h1 := set_k (v := (none : Option Cell)) h1 (show k ≠ 1 by omega)
            dsimp only [List.set]
            generalize os.set k none = os at h0 h1
            refine ⟨_, rfl, _, h1, by rw [List.length_map, List.length_map]; omega, ?_⟩
            have h0 := set_k (v := some (Cell.lst (G.map PyData.int ++ es.map fun e => PyData.int e.1))) h0 (show (1 : Nat) ≠ 0 by omega)
            have h1 := set_0 (v := some (Cell.lst (G.map PyData.int ++ es.map fun e => PyData.int e.1))) h1
            generalize os.set 1 _ = os at h0 h1
            walk_at "e"
            refine ev_app ⟨_, _, rfl, h0, ?_⟩
            walk_at "e"
            refine ⟨_, h0, by rw [List.length_map]; omega, ?_⟩
            refine ⟨G ++ es.map Prod.fst, ps ++ [(b, es)], _, _, _, rfl, ?_, ?_, key, ⟨_, rfl⟩, ?_⟩
            · rw [List.map_append]; exact set_0 h0
            · rw [List.map_append, List.map_map]; exact set_k h1 (by omega)
            · refine List.mem_append_right _ (List.mem_map.mpr ⟨s, ?_, rfl⟩)
              have := (head_mem (row_ne pr hrow)).2
              rwa [row_head pr hrow] at this
          walk_at "e"
          refine oth ?_
          walk_at "e"
          refine Ed.of (x__law_other (isEn_en _)) ?_
          walk_at "e"
          refine Rd.ed_inT ?_
          walk_at "e"
          refine ⟨fun hin => ?_, fun hin => ?_⟩
          · obtain ⟨f, hf1⟩ := Option.isSome_iff_exists.mp hin
            walk_at "e"
            refine ev_DK ?_
            walk_at "e"
            refine oth ?_
            walk_at "e"
            refine Ed.of (x__law_other (isEn_en _)) ?_
            refine ed_ixT' hf1 ?_
            walk_at "e"
            refine ed_neE ?_
            refine ⟨_, rfl, fun hne => ?_, fun hne => ?_⟩
            · walk_at "e"
              refine ev_app ⟨_, _, rfl, hk, ?_⟩
              refine ev_DK ?_
              walk_at "e"
              refine oth ?_
              walk_at "e"
              refine Ed.of (x__law_other (isEn_en _)) ?_
              refine ed_ixT' hf1 ?_
              have hrow2 := row_snoc pr hrow hf1 (by simpa using hne) rfl
              have hlen2 := row_len pr hrow2
              rw [List.length_append] at hlen2
              simp only [List.length_cons, List.length_nil] at hlen2
              refine ⟨_, hk, by rw [List.length_map]; omega, _, m - 1, rfl, by omega, _, es ++ [f], rfl, set_k h0 (by omega), set_k h1 (by omega), ?_, hrow2, by rw [List.length_append]; simp only [List.length_cons, List.length_nil]; omega⟩
              rw [List.map_append]
              exact set_0 hk
            · have hfs : f = s := by simpa using hne
              refine then_nx' ⟨_, rfl, ?_⟩
              refine (fin fun g hg => ?_).mono fun o ho => Or.inr ho
              rw [show nx (lk rows) (lastE es) = lk rows (far (lastE es)) from rfl, hf1] at hg; cases hg; exact hfs
          · have hno : lk rows (far (lastE es)) = none := by cases e : lk rows (far (lastE es)) with | none => rfl | some f => rw [e] at hin; cases hin
            refine ⟨fun z => (nomatch z), fun _ => ?_⟩
            refine then_nx' ⟨_, rfl, ?_⟩
            refine (fin fun g hg => ?_).mono fun o ho => Or.inr ho
            rw [show nx (lk rows) (lastE es) = lk rows (far (lastE es)) from rfl, hno] at hg; cases hg
        · rintro o (⟨rfl, hor⟩ | ⟨G2, ps2, x7, x8, os2, rfl, h0, h1, ht2, ⟨H, rfl⟩, hg⟩)
          · refine ⟨_, rfl, _, _, _, G, ps, os, rfl, h0, h1, ht, hf, step (fun _ h => h) fun hb => ?_⟩
            rcases hor with q | ⟨q1, q2⟩
            · exact q
            · rcases hb with hb | hb
              · rw [q1] at hb; cases hb
              · exact absurd hb q2
          · exact ⟨_, rfl, _, _, _, _, ps2, os2, rfl, h0, h1, ht2, fun hb => (hf hb).app, step (fun _ h => List.mem_append_left _ h) fun _ => hg⟩
      · rintro S ⟨x6, x7, x8, G, ps, os, rfl, h0, h1, ht, hf, hdone⟩
        refine ⟨_, rfl, _, _, _, _, G, ps, os, rfl, h0, h1, ht, fun _ => ?_, fun hi => ?_⟩
        · rcases hib with ⟨rfl, _⟩ | ⟨rfl, _⟩
          · intro e he hn
            obtain ⟨j', hj, q⟩ := List.mem_iff_getElem.mp (allE_mem.mpr he)
            exact hdone j' hj e (by rw [List.getElem?_eq_getElem hj, q]) (.inr hn)
          · exact hf rfl
        · rcases hib with ⟨_, q⟩ | ⟨rfl, _⟩
          · omega
          · intro e he
            obtain ⟨j', hj, q⟩ := List.mem_iff_getElem.mp (allE_mem.mpr he)
            exact hdone j' hj e (by rw [List.getElem?_eq_getElem hj, q]) (.inl rfl)
    · rintro S ⟨x5, x6, x7, x8, G, ps, os, rfl, h0, h1, ht, _, hall⟩
      walk_at "e"
      refine ev_varO ⟨0, _, rfl, h0, ?_⟩
      exact ⟨_, _, rfl, ps, rfl, ht.all, ht.perm fun l hlt => hall (by decide) ((l : Int), 0) ⟨by simp, by simpa using hlt, (by simp), (by simp)⟩⟩
  obtain ⟨d, e, ps, rfl, h1, h2⟩ := fin
  exact ⟨ps, e, h1, h2⟩
end Lw

set_option maxHeartbeats 4000000
namespace Lw
open PySem Fu
local macro_rules | `(tactic| walk_at "e1") => `(tactic| first
  | with_reducible refine eo_seq ?_ | (with_reducible refine then_nx' ?_; refine ⟨?_, ?_, ?_⟩; rotate_left; · (try dsimp only [List.set, List.length_cons, List.length_nil, List.cons_append, List.nil_append, Nat.zero_add, Nat.reduceAdd]); exact rfl) | with_reducible refine then_rt ?_ | with_reducible refine eo_if ?_ | with_reducible refine eo_ret ?_ | with_reducible refine eo_set ?_ | with_reducible refine eo_asg ?_ | with_reducible refine eo_drop ?_ | with_reducible refine eo_nx ?_ | with_reducible refine eo_par ?_ | with_reducible refine eo_own ?_ | with_reducible refine eo_retN ?_ | with_reducible refine eo_for ?_ | with_reducible refine eo_retO ?_
  | with_reducible refine ev_c ?_ | (with_reducible refine ev_var ?_; refine ⟨_, rfl, ?_⟩) | with_reducible refine ev_bin ?_ | with_reducible refine ev_un ?_ | with_reducible refine ev_nil ?_ | with_reducible refine ev_cons ?_
  | with_reducible refine ev_tup ?_ | with_reducible refine ev_lst ?_ | with_reducible refine ev_call ?_ | with_reducible refine ev_callF ?_ | with_reducible refine ev_isi ?_ | with_reducible refine ev_isi2 ?_ | with_reducible refine ev_andV ?_ | with_reducible refine ev_orV ?_ | with_reducible refine ev_notV ?_
  | with_reducible refine ev_B ?_ | with_reducible refine ev_and ?_ | with_reducible refine ev_or ?_ | with_reducible refine ev_not ?_ | with_reducible refine ev_yes ?_ | with_reducible refine ev_if ?_ | with_reducible refine ev_no ?_ | with_reducible refine ev_so ?_ | with_reducible refine ev_sl ?_ | with_reducible refine ev_items ?_
  | (with_reducible refine ev_ixO ?_; refine ⟨_, _, rfl, rfl, ?_⟩) | (with_reducible refine ev_varO ?_; refine ⟨_, _, rfl, rfl, ?_⟩) | (with_reducible refine ev_lenO ?_; refine ⟨_, _, rfl, rfl, ?_⟩) | (with_reducible refine ev_scrSl ?_; refine ⟨_, rfl, ?_⟩) | (with_reducible refine ev_scrLen ?_; refine ⟨_, rfl, ?_⟩) | (with_reducible refine ev_callScr ?_; refine ⟨_, rfl, ?_⟩) | (with_reducible refine ev_OL ?_; refine ⟨_, _, rfl, rfl, ?_⟩) | with_reducible refine ev_OR ?_ | with_reducible refine ev_rep ?_ | with_reducible refine ev_listRng1 ?_ | with_reducible refine eo_setO ?_
  | with_reducible refine es_name ?_ | with_reducible refine es_tup2 ?_ | with_reducible refine es_tup3 ?_
  | with_reducible refine ed_addI ?_ | with_reducible refine ed_subI ?_ | with_reducible refine ed_cmp ?_ | with_reducible refine ed_eqI ?_ | with_reducible refine ed_neI ?_ | with_reducible refine ed_slT ?_ | with_reducible refine ed_slL ?_ | with_reducible refine ed_lenT ?_ | with_reducible refine ed_lenL ?_ | with_reducible refine ed_lenS ?_ | with_reducible refine ed_inS ?_ | with_reducible refine ed_itT ?_ | with_reducible refine ed_itL ?_ | with_reducible refine ed_tupL ?_ | with_reducible refine ed_tupT ?_ | with_reducible refine ed_listL ?_ | with_reducible refine ed_listT ?_ | with_reducible refine ed_neg ?_ | with_reducible refine ed_max ?_ | with_reducible refine ed_min ?_ | with_reducible refine ed_intB ?_
  | with_reducible refine ev_rng1 ?_ | with_reducible refine ev_rng2 ?_)
local macro_rules | `(tactic| walk_at "sd") => `(tactic| first | rfl | assumption | (simp only [decide_eq_true_eq, decide_eq_false_iff_not, Bool.not_eq_true', Bool.not_eq_false', Bool.and_eq_true, Bool.or_eq_true, List.length_map, List.length_cons, List.length_nil, List.length_append, List.length_range] at *; omega))
local macro_rules | `(tactic| walk_at "e2") => `(tactic| first
  | walk_at "e1" | with_reducible refine ⟨_, rfl, ?_⟩ | with_reducible refine ⟨_, _, rfl, ?_⟩
  | with_reducible refine And.intro (Eq.refl (List.length _)) ?_ | with_reducible refine And.intro (Nat.le_of_ble_eq_true (n := List.length _) rfl) ?_
  | with_reducible refine And.intro (Eq.refl (_ : Sx)) (?_ : Ed _ _)
  | ((with_reducible refine And.intro ?_ (And.intro ?_ (?_ : Ev _ _))); (· rfl); (· rfl))
  | ((with_reducible refine ed_ixTx ?_); refine ⟨_, by decide, rfl, ?_⟩) | ((with_reducible refine ed_ixLx ?_); refine ⟨_, by decide, rfl, ?_⟩) | ((with_reducible refine es_star ?_))
  | with_reducible refine an_tt ?_ | with_reducible refine an_ft ?_ | with_reducible refine an_tf ?_ | with_reducible refine an_ff ?_ | with_reducible refine an_ntt ?_ | with_reducible refine an_nft ?_ | with_reducible refine an_ntf ?_ | with_reducible refine an_nff ?_
  | ((with_reducible refine ed_dneSelf ?_)) | ((with_reducible refine ed_deqSelf ?_))
  | ((with_reducible refine ed_ixT ?_ ?_ ?_); (· decide); (· rfl)) | ((with_reducible refine ed_ixL ?_ ?_ ?_); (· decide); (· rfl)) | ((with_reducible refine ed_at ?_ ?_ ?_); (· decide); (· rfl))
  | ((with_reducible refine ed_modI ?_ ?_); (· first | decide | omega))
  | with_reducible exact gives_nx | ((with_reducible refine gives_rt ?_); (· rfl)) | ((with_reducible refine And.intro ?_ ?_); (· exact rfl); (· with_reducible exact Eq.refl (_ : Sx))))
local macro_rules | `(tactic| walk_at "e") => `(tactic| repeat walk_at "e2")
/-- begin a def's spec -/
local macro_rules | `(tactic| walk_at "i") => `(tactic| simp only [initS, List.map_cons, List.map_nil, List.length_cons, List.length_nil, Nat.reduceAdd, Nat.reduceSub, List.replicate, List.cons_append, List.nil_append])
/-- a known truth decides -/
local macro_rules | `(tactic| walk_at "t") => `(tactic| first | ((with_reducible refine split_t ?_ ?_); (· walk_at "sd")) | ((with_reducible refine split_t' ?_ ?_); (· walk_at "sd")))
local macro_rules | `(tactic| walk_at "f") => `(tactic| first | ((with_reducible refine split_f ?_ ?_); (· walk_at "sd")) | ((with_reducible refine split_f' ?_ ?_); (· walk_at "sd")))
/-- all that is seen in a look -/
local macro_rules | `(tactic| walk_at "v") => `(tactic| (rw [sealAll_mk (by (simp only [List.set_cons_zero, List.set_cons_succ, List.map_cons, List.map_nil, sealS_none, sealS_dat, sealS_scr, sealS_own, List.getElem?_cons_zero, List.getElem?_cons_succ, sealC_lst]; rfl)) (by (simp only [List.set_cons_zero, List.set_cons_succ, List.map_cons, List.map_nil]; rfl))]))
open Rd Lw.Sp
open L2 (Key)
theorem x__law_lines_of {ps : List Pc} (hz : (lnsOf ps).length ≤ 1000000) : m__law_lines_of [.list (ps.map pcD)] = some (.list (((lnsOf ps).map PyData.int).mergeSort leD)) := by
  unfold m__law_lines_of; refine mF_of ?_; walk_at "i"; unfold g__law_lines_of
  walk_at "e"
  refine eo_loopX (xs := ps) (enc := pcD) (fun j S => ∃ x2 x3 x4, S = ⟨[some (.dat (.list (ps.map pcD))), some (.own 0), x2, x3, x4], [some (.lst ((lnsOf (ps.take j)).map PyData.int))]⟩) ⟨_, _, _, rfl⟩ ?_ ?_
  · rintro j x S hx ⟨x2, x3, x4, rfl⟩
    have e1 : lnsOf (ps.take (j + 1)) = lnsOf (ps.take j) ++ x.2.map Prod.fst := by
      unfold lnsOf
      rw [List.take_add_one, List.flatMap_append, hx]
      simp
    have l1 : (lnsOf (ps.take (j + 1))).length ≤ (lnsOf ps).length := by
      conv => rhs; rw [← List.take_append_drop (j + 1) ps]
      unfold lnsOf
      rw [List.flatMap_append, List.length_append]
      omega
    rw [e1, List.length_append, List.length_map] at l1
    refine es_tup2 (d := .str (wordS x.1)) (e := lE x.2) ?_
    walk_at "e"
    refine ev_ext ⟨_, _, rfl, rfl, ?_⟩
    refine ev_mapX (xs := x.2) (enc := en) (g := fun e => .int e.1) ?_
    walk_at "e"
    refine ed_itQ (sq_l _) ⟨rfl, fun e he => ?_, ?_⟩
    · walk_at "e"
      refine ed_ixQ (isEn_en e) (by decide) rfl ?_
      exact ⟨rfl, rfl⟩
    · refine ⟨_, rfl, _, rfl, by rw [List.length_map, List.length_map]; omega, ?_⟩
      rw [e1, List.map_append, List.map_map]
      exact ⟨_, rfl, _, _, _, rfl⟩
  · rintro S ⟨x2, x3, x4, rfl⟩
    rw [List.take_length]
    walk_at "e"
    refine ⟨.list (((lnsOf ps).map PyData.int).mergeSort leD), by simp only [dSorted, sortOk_ints, if_true], ?_⟩
    exact gives_rt rfl
theorem ev_ifT {S : Sx} {gt ga gb : M Bool} {Q : Bool → Sx → Prop} (h : Ev (gt S) fun c S1 => (c = true → Ev (ga S1) Q) ∧ (c = false → Ev (gb S1) Q)) : Ev (gIfT gt ga gb S) Q := by
  obtain ⟨c, S1, e1, h1, h2⟩ := h
  cases c with
  | true => obtain ⟨b, S2, e2, q⟩ := h1 rfl; exact ⟨b, S2, by simp only [gIfT, e1, Option.bind_some, if_true, e2], q⟩
  | false => obtain ⟨b, S2, e2, q⟩ := h2 rfl; exact ⟨b, S2, by simp only [gIfT, e1, Option.bind_some, Bool.false_eq_true, if_false, e2], q⟩
def dueB (ls : List Ln) (ps : List Pc) : Bool := ps.all (pcB ls) && decide ((lnsOf ps).Perm ((List.range ls.length).map fun i : Nat => (i : Int)))
theorem x__law_due {w : D} {p : Int} {ls : List Ln} {ps : List Pc} (hw : Web w p ls) (h : WbOk p ls) (hl : ls.length ≤ 1000) (hp : ps.length ≤ 1000) (hz : ∀ x ∈ ps, x.2.length ≤ 1000) : m__law_due [w, .list (ps.map pcD)] = some (.bool (dueB ls ps)) := by
  obtain ⟨L, sw, hL⟩ := id hw
  obtain ⟨ys, sy, hly⟩ := lns_len hL
  have hz2 : (lnsOf ps).length ≤ 1000000 := by
    have : ∀ qs : List Pc, (∀ x ∈ qs, x.2.length ≤ 1000) → (lnsOf qs).length ≤ 1000 * qs.length := by
      intro qs
      induction qs with
      | nil => intro _; exact Nat.le_refl _
      | cons q qs ih =>
        intro h
        have h1 := h q List.mem_cons_self
        have h2 := ih fun x hx => h x (List.mem_cons_of_mem _ hx)
        unfold lnsOf at *
        rw [List.flatMap_cons, List.length_append, List.length_map, List.length_cons]
        omega
    have := this ps hz
    omega
  unfold m__law_due; refine mF_of ?_; walk_at "i"; unfold g__law_due
  walk_at "e"
  refine eo_loopE (xs := ps) (enc := pcD) (fun j S => ∃ x2 x3, S = ⟨[some (.dat w), some (.dat (.list (ps.map pcD))), x2, x3], []⟩ ∧ ∀ j' < j, ∀ x, ps[j']? = some x → pcB ls x = true) ⟨_, _, rfl, fun j' h => absurd h (by omega)⟩ ?_ ?_
  · rintro j x S hx ⟨x2, x3, rfl, hb⟩
    obtain ⟨b, es⟩ := x
    have hzx : es.length ≤ 1000 := hz _ (List.mem_of_getElem? hx)
    refine es_tup2 (d := .str (wordS b)) (e := lE es) ?_
    dsimp only [List.set]
    have key : Ev (gIfT (gB (gBin dEq (gVar 2) (gC (.str "ride")))) (gB (gCallF 2 m__law_is_ride (gCons (gVar 0) (gCons (gVar 3) gNil)))) (gB (gCallF 2 m__law_is_round (gCons (gVar 0) (gCons (gVar 3) gNil)))) ⟨[some (.dat w), some (.dat (.list (ps.map pcD))), some (.dat (.str (wordS b))), some (.dat (lE es))], []⟩) fun d S1 => d = pcB ls (b, es) ∧ S1 = ⟨[some (.dat w), some (.dat (.list (ps.map pcD))), some (.dat (.str (wordS b))), some (.dat (lE es))], []⟩ := by
      refine ev_ifT ?_
      walk_at "e"
      refine Ed.of (dEq_str _ _) ?_
      refine ⟨_, rfl, fun hb => ?_, fun hb => ?_⟩
      · have hb : b = false := by cases b with | false => rfl | true => exact absurd (of_decide_eq_true hb) (by decide +kernel)
        subst hb
        walk_at "e"
        exact Ed.of (x__law_is_ride hw h (ride_lE es) (by omega)) ⟨_, rfl, rfl, rfl⟩
      · have hb : b = true := by cases b with | true => rfl | false => simp [wordS] at hb
        subst hb
        walk_at "e"
        exact Ed.of (x__law_is_round hw h (ride_lE es) (by omega)) ⟨_, rfl, rfl, rfl⟩
    walk_at "e1"
    walk_at "e1"
    refine key.mono ?_
    rintro d S1 ⟨rfl, rfl⟩
    cases hpb : pcB ls (b, es) with
    | true =>
      walk_at "f"
      walk_at "e"
      refine .inl ⟨_, .inl rfl, _, _, rfl, fun j' hj y hy => ?_⟩
      by_cases hjj : j' = j
      · subst hjj; rw [hx] at hy; cases hy; exact hpb
      · exact hb j' (by omega) y hy
    | false =>
      walk_at "t"
      walk_at "e"
      refine .inr (.inr (.inl ⟨_, _, rfl, then_rt ?_⟩))
      have : ps.all (pcB ls) = false := by rw [List.all_eq_false]; exact ⟨_, List.mem_of_getElem? hx, by rw [hpb]; simp⟩
      unfold dueB
      rw [this, gives_rtI]
      rfl
  · rintro S ⟨x2, x3, rfl, hb⟩
    have hall : ps.all (pcB ls) = true := List.all_eq_true.mpr fun x hx => by
      obtain ⟨j, hj, q⟩ := List.mem_iff_getElem.mp hx
      exact hb j hj x (by rw [List.getElem?_eq_getElem hj, q])
    walk_at "e"
    refine Ed.of (x__law_lines_of hz2) ?_
    walk_at "e"
    refine ed_ixQ sw (by decide) rfl ?_
    walk_at "e"
    refine ed_lenQ sy ?_
    walk_at "e"
    refine ⟨by omega, by omega, ?_⟩
    rw [hly, Int.toNat_natCast]
    have hs : Ed (dSorted [.list ((lnsOf ps).map PyData.int)]) fun x => Ed (dEq x (.list (rng 0 ls.length))) fun y => y = .bool (decide ((lnsOf ps).Perm ((List.range ls.length).map fun i : Nat => (i : Int)))) := ed_eqSort rfl
    obtain ⟨x, hx1, y, hy1, rfl⟩ := hs
    have hx2 : x = .list (((lnsOf ps).map PyData.int).mergeSort leD) := by
      simp only [dSorted, sortOk_ints, if_true] at hx1
      exact (Option.some.inj hx1).symm
    subst hx2
    refine Ed.of hy1 ?_
    unfold dueB
    rw [hall]
    exact gives_rt rfl
end Lw

set_option maxHeartbeats 4000000
namespace Lw
open PySem Fu
local macro_rules | `(tactic| walk_at "e1") => `(tactic| first
  | with_reducible refine eo_seq ?_ | (with_reducible refine then_nx' ?_; refine ⟨?_, ?_, ?_⟩; rotate_left; · (try dsimp only [List.set, List.length_cons, List.length_nil, List.cons_append, List.nil_append, Nat.zero_add, Nat.reduceAdd]); exact rfl) | with_reducible refine then_rt ?_ | with_reducible refine eo_if ?_ | with_reducible refine eo_ret ?_ | with_reducible refine eo_set ?_ | with_reducible refine eo_asg ?_ | with_reducible refine eo_drop ?_ | with_reducible refine eo_nx ?_ | with_reducible refine eo_par ?_ | with_reducible refine eo_own ?_ | with_reducible refine eo_retN ?_ | with_reducible refine eo_for ?_ | with_reducible refine eo_retO ?_
  | with_reducible refine ev_c ?_ | (with_reducible refine ev_var ?_; refine ⟨_, rfl, ?_⟩) | with_reducible refine ev_bin ?_ | with_reducible refine ev_un ?_ | with_reducible refine ev_nil ?_ | with_reducible refine ev_cons ?_
  | with_reducible refine ev_tup ?_ | with_reducible refine ev_lst ?_ | with_reducible refine ev_call ?_ | with_reducible refine ev_callF ?_ | with_reducible refine ev_isi ?_ | with_reducible refine ev_isi2 ?_ | with_reducible refine ev_andV ?_ | with_reducible refine ev_orV ?_ | with_reducible refine ev_notV ?_
  | with_reducible refine ev_B ?_ | with_reducible refine ev_and ?_ | with_reducible refine ev_or ?_ | with_reducible refine ev_not ?_ | with_reducible refine ev_yes ?_ | with_reducible refine ev_if ?_ | with_reducible refine ev_no ?_ | with_reducible refine ev_so ?_ | with_reducible refine ev_sl ?_ | with_reducible refine ev_items ?_
  | (with_reducible refine ev_ixO ?_; refine ⟨_, _, rfl, rfl, ?_⟩) | (with_reducible refine ev_varO ?_; refine ⟨_, _, rfl, rfl, ?_⟩) | (with_reducible refine ev_lenO ?_; refine ⟨_, _, rfl, rfl, ?_⟩) | (with_reducible refine ev_scrSl ?_; refine ⟨_, rfl, ?_⟩) | (with_reducible refine ev_scrLen ?_; refine ⟨_, rfl, ?_⟩) | (with_reducible refine ev_callScr ?_; refine ⟨_, rfl, ?_⟩) | (with_reducible refine ev_OL ?_; refine ⟨_, _, rfl, rfl, ?_⟩) | with_reducible refine ev_OR ?_ | with_reducible refine ev_rep ?_ | with_reducible refine ev_listRng1 ?_ | with_reducible refine eo_setO ?_
  | with_reducible refine es_name ?_ | with_reducible refine es_tup2 ?_ | with_reducible refine es_tup3 ?_
  | with_reducible refine ed_addI ?_ | with_reducible refine ed_subI ?_ | with_reducible refine ed_cmp ?_ | with_reducible refine ed_eqI ?_ | with_reducible refine ed_neI ?_ | with_reducible refine ed_slT ?_ | with_reducible refine ed_slL ?_ | with_reducible refine ed_lenT ?_ | with_reducible refine ed_lenL ?_ | with_reducible refine ed_lenS ?_ | with_reducible refine ed_inS ?_ | with_reducible refine ed_itT ?_ | with_reducible refine ed_itL ?_ | with_reducible refine ed_tupL ?_ | with_reducible refine ed_tupT ?_ | with_reducible refine ed_listL ?_ | with_reducible refine ed_listT ?_ | with_reducible refine ed_neg ?_ | with_reducible refine ed_max ?_ | with_reducible refine ed_min ?_ | with_reducible refine ed_intB ?_
  | with_reducible refine ev_rng1 ?_ | with_reducible refine ev_rng2 ?_)
local macro_rules | `(tactic| walk_at "sd") => `(tactic| first | rfl | assumption | (simp only [decide_eq_true_eq, decide_eq_false_iff_not, Bool.not_eq_true', Bool.not_eq_false', Bool.and_eq_true, Bool.or_eq_true, List.length_map, List.length_cons, List.length_nil, List.length_append, List.length_range] at *; omega))
local macro_rules | `(tactic| walk_at "e2") => `(tactic| first
  | walk_at "e1" | with_reducible refine ⟨_, rfl, ?_⟩ | with_reducible refine ⟨_, _, rfl, ?_⟩
  | with_reducible refine And.intro (Eq.refl (List.length _)) ?_ | with_reducible refine And.intro (Nat.le_of_ble_eq_true (n := List.length _) rfl) ?_
  | with_reducible refine And.intro (Eq.refl (_ : Sx)) (?_ : Ed _ _)
  | ((with_reducible refine And.intro ?_ (And.intro ?_ (?_ : Ev _ _))); (· rfl); (· rfl))
  | ((with_reducible refine ed_ixTx ?_); refine ⟨_, by decide, rfl, ?_⟩) | ((with_reducible refine ed_ixLx ?_); refine ⟨_, by decide, rfl, ?_⟩) | ((with_reducible refine es_star ?_))
  | with_reducible refine an_tt ?_ | with_reducible refine an_ft ?_ | with_reducible refine an_tf ?_ | with_reducible refine an_ff ?_ | with_reducible refine an_ntt ?_ | with_reducible refine an_nft ?_ | with_reducible refine an_ntf ?_ | with_reducible refine an_nff ?_
  | ((with_reducible refine ed_dneSelf ?_)) | ((with_reducible refine ed_deqSelf ?_))
  | ((with_reducible refine ed_ixT ?_ ?_ ?_); (· decide); (· rfl)) | ((with_reducible refine ed_ixL ?_ ?_ ?_); (· decide); (· rfl)) | ((with_reducible refine ed_at ?_ ?_ ?_); (· decide); (· rfl))
  | ((with_reducible refine ed_modI ?_ ?_); (· first | decide | omega))
  | with_reducible exact gives_nx | ((with_reducible refine gives_rt ?_); (· rfl)) | ((with_reducible refine And.intro ?_ ?_); (· exact rfl); (· with_reducible exact Eq.refl (_ : Sx))))
local macro_rules | `(tactic| walk_at "e") => `(tactic| repeat walk_at "e2")
/-- begin a def's spec -/
local macro_rules | `(tactic| walk_at "i") => `(tactic| simp only [initS, List.map_cons, List.map_nil, List.length_cons, List.length_nil, Nat.reduceAdd, Nat.reduceSub, List.replicate, List.cons_append, List.nil_append])
/-- a known truth decides -/
local macro_rules | `(tactic| walk_at "t") => `(tactic| first | ((with_reducible refine split_t ?_ ?_); (· walk_at "sd")) | ((with_reducible refine split_t' ?_ ?_); (· walk_at "sd")))
local macro_rules | `(tactic| walk_at "f") => `(tactic| first | ((with_reducible refine split_f ?_ ?_); (· walk_at "sd")) | ((with_reducible refine split_f' ?_ ?_); (· walk_at "sd")))
/-- all that is seen in a look -/
local macro_rules | `(tactic| walk_at "v") => `(tactic| (rw [sealAll_mk (by (simp only [List.set_cons_zero, List.set_cons_succ, List.map_cons, List.map_nil, sealS_none, sealS_dat, sealS_scr, sealS_own, List.getElem?_cons_zero, List.getElem?_cons_succ, sealC_lst]; rfl)) (by (simp only [List.set_cons_zero, List.set_cons_succ, List.map_cons, List.map_nil]; rfl))]))
open Rd Lw.Sp
open L2 (Key)
theorem es_slO {i : Nat} {gl gh : M (Option Int)} {ds : List D} {S : Sx} {W : Sx → Prop} (h : ∃ j cs0, S.sl[i]? = some (some (.own j)) ∧ S.os[j]? = some (some (.lst cs0)) ∧ Ev (gl S) fun lo S1 => Ev (gh S1) fun hi S2 => ∃ a b cs, lo = some a ∧ hi = some b ∧ S2.os[j]? = some (some (.lst cs)) ∧ 0 ≤ a ∧ a ≤ b ∧ b ≤ cs.length ∧ cs.length + ds.length ≤ 1000000 ∧ W ⟨S2.sl, S2.os.set j (some (.lst (cs.take a.toNat ++ ds ++ cs.drop b.toNat)))⟩) : Es (sSlO i gl gh (.list ds) S) W := by
  obtain ⟨j, cs0, h1, h2, lo, S1, e1, hi, S2, e2, a, b, cs, rfl, rfl, h3, a0, ab, bc, hz, q⟩ := h
  refine ⟨_, ?_, q⟩
  unfold sSlO
  simp only [ownOf, Fu.cellOf, h1, h2, e1, e2, h3, Option.bind_some, setCell]
  rw [if_pos ⟨a0, ab, bc, Nat.le_trans hz (by decide)⟩]
theorem ed_revL {xs : List D} {Q : D → Prop} (q : Q (.list xs.reverse)) : Ed (dRevL (.list xs)) Q := ⟨_, rfl, q⟩
/-- pieces with their ends there -/
def PcOk (n m : Nat) (x : Pc) : Prop := x.2 ≠ [] ∧ (∀ e ∈ x.2, EndOk n e) ∧ x.2.length ≤ m
theorem ed_notword {b : Bool} {Q : D → Prop} (q : Q (.str (wordS (!b)))) : Ed (dIx (.list [.str "ride", .str "round"]) (.int (if decide (wordS b = "ride") = true then 1 else 0))) Q := by
  cases b with
  | false => rw [show (if decide (wordS false = "ride") = true then (1 : Int) else 0) = 1 by decide +kernel]; exact ed_ixL (by decide) rfl q
  | true => rw [show (if decide (wordS true = "ride") = true then (1 : Int) else 0) = 0 by decide +kernel]; exact ed_ixL (by decide) rfl q
def PcLe (n m : Nat) (x : Pc) : Prop := x.2.length ≤ m ∧ ∀ e ∈ x.2, EndOk n e
theorem set_le {n M : Nat} {ps : List Pc} {a : Nat} {y : Pc} (h : ∀ x ∈ ps, PcLe n M x) (hy : PcLe n M y) : ∀ x ∈ ps.set a y, PcLe n M x := fun x hx => (List.mem_or_eq_of_mem_set hx).elim (h x) fun z => z ▸ hy
theorem x__law_otherwise {c : Nat} {cs : List D} {p : Int} {ls : List Ln} {ps : List Pc} {m : Nat} (h : WbOk p ls) (hl : ls.length ≤ 1000) (hn : ls ≠ []) (hps : ps ≠ []) (hpl : ps.length ≤ 1000) (hm : m ≤ 400) (hok : ∀ x ∈ ps, PcOk ls.length m x) (hR : Reel c cs) (hc : 20 ≤ c) :
    ∃ d cs', m__law_otherwise cs [wb p ls, .list (ps.map pcD)] = some (d, cs') ∧ ∃ qs : List Pc, d = .list (qs.map pcD) ∧ qs.length ≤ ps.length + 1 ∧ (∀ x ∈ qs, PcLe ls.length (2 * m + 1) x) ∧ Reel (c - 20) cs' := by
  have hW := web_wb p ls
  have h0 : 0 < ps.length := List.length_pos_iff.mpr hps
  have hle : ∀ x ∈ ps, PcLe ls.length (2 * m + 1) x := fun x hx => ⟨by have := (hok x hx).2.2; omega, (hok x hx).2.1⟩
  unfold m__law_otherwise; refine mIO_of ?_; walk_at "i"; unfold g__law_otherwise
  walk_at "e"
  refine ev_drawR ⟨_, rfl, ?_⟩
  walk_at "e"
  refine ⟨_, _, _, rfl, rfl, hR, by omega, by simp; omega, by simp; omega, fun v1 cs a1 b1 hR => ?_⟩
  rw [List.length_map] at b1
  obtain ⟨a, rfl⟩ : ∃ a : Nat, v1 = (a : Int) := ⟨v1.toNat, by omega⟩
  have hal : a < ps.length := by omega
  have hg : ps[a]? = some ps[a] := List.getElem?_eq_getElem hal
  have hxm : ps[a] ∈ ps := List.getElem_mem _
  generalize ps[a] = x at hg hxm
  obtain ⟨b, es⟩ := x
  obtain ⟨hne, hall, hem⟩ := hok _ hxm
  simp only at hne hall hem
  have hat : (ps.map pcD)[(a : Int).toNat]? = some (.tuple [.str (wordS b), lE es]) := by rw [Int.toNat_natCast, List.getElem?_map, hg]; rfl
  have hel : 0 < es.length := List.length_pos_iff.mpr hne
  walk_at "e"
  refine ed_at (by omega) hat ?_
  walk_at "e"
  refine ev_drawR ⟨_, rfl, ?_⟩
  walk_at "e"
  refine ed_lenQ (sq_l _) ?_
  walk_at "e"
  refine ⟨_, _, _, rfl, rfl, hR, by omega, by simp; omega, by simp; omega, fun v2 cs a2 b2 hR => ?_⟩
  rw [List.length_map] at b2
  walk_at "e"
  refine ev_drawR ⟨_, rfl, ?_⟩
  walk_at "e"
  refine ⟨_, _, _, rfl, rfl, hR, by omega, by decide, by decide, fun v3 cs a3 b3 hR => ?_⟩
  walk_at "e"
  obtain ⟨k, rfl⟩ : ∃ k : Nat, v2 = (k : Int) := ⟨v2.toNat, by omega⟩
  have hcases : v3 = 0 ∨ v3 = 1 ∨ v3 = 2 ∨ v3 = 3 ∨ v3 = 4 ∨ v3 = 5 ∨ v3 = 6 ∨ v3 = 7 := by omega
  rcases hcases with rfl | rfl | rfl | rfl | rfl | rfl | rfl | rfl
  · walk_at "t"
    walk_at "e"
    refine ev_popAt ⟨_, _, rfl, rfl, ?_⟩
    walk_at "e"
    refine ⟨_, _, rfl, rfl, by omega, _, hat, ?_⟩
    walk_at "e"
    walk_at "f"
    walk_at "e"
    walk_at "f"
    walk_at "e"
    walk_at "f"
    walk_at "e"
    walk_at "f"
    walk_at "e"
    walk_at "f"
    walk_at "e"
    walk_at "f"
    walk_at "e"
    walk_at "f"
    walk_at "e"
    exact ⟨cs, rfl, ps.eraseIdx a, by rw [Int.toNat_natCast, map_eraseIdx], by rw [List.length_eraseIdx]; split <;> omega, fun x hx => hle x (List.mem_of_mem_eraseIdx hx), hR.mono (by omega)⟩
  · walk_at "f"
    walk_at "e"
    walk_at "t"
    walk_at "e"
    refine ev_app ⟨_, _, rfl, rfl, ?_⟩
    walk_at "e"
    refine ed_at (by omega) hat ?_
    refine ⟨_, rfl, by rw [List.length_map]; omega, ?_⟩
    walk_at "e"
    walk_at "f"
    walk_at "e"
    walk_at "f"
    walk_at "e"
    walk_at "f"
    walk_at "e"
    walk_at "f"
    walk_at "e"
    walk_at "f"
    walk_at "e"
    walk_at "f"
    walk_at "e"
    exact ⟨cs, rfl, ps ++ [(b, es)], by rw [List.map_append]; rfl, by simp, fun x hx => by
      rcases List.mem_append.mp hx with hx | hx
      · exact hle x hx
      · rw [List.mem_singleton.mp hx]; exact hle _ hxm, hR.mono (by omega)⟩
  · walk_at "f"
    walk_at "e"
    walk_at "f"
    walk_at "e"
    walk_at "t"
    walk_at "e"
    refine Ed.of (dEq_str _ _) ?_
    walk_at "e"
    refine ed_notword ?_
    walk_at "e"
    refine ⟨1, _, rfl, rfl, ?_⟩
    walk_at "e"
    refine ⟨rfl, a, rfl, by rw [List.length_map]; exact hal, ?_⟩
    walk_at "e"
    walk_at "f"
    walk_at "e"
    walk_at "f"
    walk_at "e"
    walk_at "f"
    walk_at "e"
    walk_at "f"
    walk_at "e"
    walk_at "f"
    walk_at "e"
    exact ⟨cs, rfl, ps.set a (!b, es), by rw [List.map_set]; rfl, by rw [List.length_set]; omega, set_le hle (by have := hle _ hxm; exact this), hR.mono (by omega)⟩
  · walk_at "f"
    walk_at "e"
    walk_at "f"
    walk_at "e"
    walk_at "f"
    walk_at "e"
    walk_at "t"
    walk_at "e"
    refine ⟨fun hk => ?_, fun hk => ?_⟩
    · walk_at "e"
      unfold lE
      walk_at "e"
      rw [cut_to (by omega), cut_from (by omega), ← List.map_take, ← List.map_drop]
      walk_at "e"
      refine es_slO ⟨1, _, rfl, rfl, ?_⟩
      walk_at "e"
      refine ⟨a, a + 1, _, rfl, rfl, rfl, by omega, by omega, by rw [List.length_map]; omega, by rw [List.length_map]; simp; omega, ?_⟩
      walk_at "e"
      walk_at "f"
      walk_at "e"
      walk_at "f"
      walk_at "e"
      walk_at "f"
      walk_at "e"
      walk_at "f"
      walk_at "e"
      exact ⟨cs, rfl, ps.take a ++ [(false, es.take k), (false, es.drop k)] ++ ps.drop (a + 1), by simp [pcD, lE, wordS], by simp; omega, fun x hx => by
        simp only [List.mem_append, List.mem_cons, List.not_mem_nil, or_false] at hx
        rcases hx with (hx | rfl | rfl) | hx
        · exact hle x (List.mem_of_mem_take hx)
        · exact ⟨by show (es.take k).length ≤ _; rw [List.length_take]; omega, fun e he => hall e (List.mem_of_mem_take he)⟩
        · exact ⟨by show (es.drop k).length ≤ _; rw [List.length_drop]; omega, fun e he => hall e (List.mem_of_mem_drop he)⟩
        · exact hle x (List.mem_of_mem_drop hx), hR.mono (by omega)⟩
    · walk_at "e"
      walk_at "f"
      walk_at "e"
      walk_at "f"
      walk_at "e"
      walk_at "f"
      walk_at "e"
      walk_at "f"
      walk_at "e"
      exact ⟨cs, rfl, ps, rfl, by omega, hle, hR.mono (by omega)⟩
  · walk_at "f"
    walk_at "e"
    walk_at "f"
    walk_at "e"
    walk_at "f"
    walk_at "e"
    walk_at "f"
    walk_at "e"
    walk_at "t"
    walk_at "e"
    refine ev_drawR ⟨_, rfl, ?_⟩
    walk_at "e"
    rw [List.length_map]
    refine ⟨_, _, _, rfl, rfl, hR, by omega, by omega, by omega, fun v4 cs a4 b4 hR => ?_⟩
    walk_at "e"
    obtain ⟨j, rfl⟩ : ∃ j : Nat, v4 = (j : Int) := ⟨v4.toNat, by omega⟩
    have hjl : j < ps.length := by omega
    have hgj : ps[j]? = some ps[j] := List.getElem?_eq_getElem hjl
    have hym : ps[j] ∈ ps := List.getElem_mem _
    generalize ps[j] = y at hgj hym
    obtain ⟨b', fs⟩ := y
    have hfm := (hok _ hym).2.2
    have hfa := (hok _ hym).2.1
    simp only at hfm hfa
    have hatj : (ps.map pcD)[(j : Int).toNat]? = some (.tuple [.str (wordS b'), lE fs]) := by rw [Int.toNat_natCast, List.getElem?_map, hgj]; rfl
    refine ed_at (by omega) hatj ?_
    walk_at "e"
    unfold lE
    walk_at "e"
    refine ed_addL (by simp; omega) ?_
    walk_at "e"
    refine ⟨1, _, rfl, rfl, ?_⟩
    walk_at "e"
    refine ⟨rfl, a, rfl, by rw [List.length_map]; exact hal, ?_⟩
    walk_at "e"
    refine ev_slO ⟨_, rfl, ?_⟩
    walk_at "e"
    refine ev_slO ⟨_, rfl, ?_⟩
    walk_at "e"
    have hset : (ps.map pcD).set a (.tuple [.str (wordS b), .list (es.map en ++ fs.map en)]) = (ps.set a (b, es ++ fs)).map pcD := by
      rw [List.map_set]
      simp [pcD, lE]
    rw [hset, cut_to (by omega), cut_from (by omega)]
    refine ed_addL (by simp; omega) ?_
    walk_at "e"
    walk_at "f"
    walk_at "e"
    walk_at "f"
    walk_at "e"
    walk_at "f"
    walk_at "e"
    refine ⟨cs, rfl, (ps.set a (b, es ++ fs)).take j ++ (ps.set a (b, es ++ fs)).drop (j + 1), ?_, ?_, fun x hx => ?_, hR.mono (by omega)⟩
    · rw [List.map_append, List.map_take, List.map_drop]
      have e1 : ((j : Int) + 1).toNat = j + 1 := by omega
      rw [e1, Int.toNat_natCast]
    · rw [List.length_append, List.length_take, List.length_drop, List.length_set]; omega
    · refine set_le (a := a) (y := (b, es ++ fs)) hle ⟨by show (es ++ fs).length ≤ _; rw [List.length_append]; omega, fun e he => (List.mem_append.mp he).elim (hall e) (hfa e)⟩ x ?_
      rcases List.mem_append.mp hx with hx | hx
      · exact List.mem_of_mem_take hx
      · exact List.mem_of_mem_drop hx
  · walk_at "f"
    walk_at "e"
    walk_at "f"
    walk_at "e"
    walk_at "f"
    walk_at "e"
    walk_at "f"
    walk_at "e"
    walk_at "f"
    walk_at "e"
    walk_at "t"
    walk_at "e"
    unfold lE
    walk_at "e"
    refine ev_mapX (xs := es.reverse) (enc := en) (g := fun e => en (far e)) ?_
    walk_at "e"
    refine ed_revL ?_
    walk_at "e"
    refine ⟨by rw [List.map_reverse], fun e he => ?_, ?_⟩
    · walk_at "e"
      exact Ed.of (x__law_other (isEn_en e)) ⟨rfl, rfl⟩
    walk_at "e"
    refine ⟨1, _, rfl, rfl, ?_⟩
    walk_at "e"
    refine ⟨rfl, a, rfl, by rw [List.length_map]; exact hal, ?_⟩
    walk_at "e"
    walk_at "f"
    walk_at "e"
    walk_at "f"
    walk_at "e"
    exact ⟨cs, rfl, ps.set a (b, es.reverse.map far), by rw [List.map_set]; simp [pcD, lE, Function.comp_def], by rw [List.length_set]; omega, set_le hle ⟨by show (es.reverse.map far).length ≤ _; rw [List.length_map, List.length_reverse]; omega, fun e he => by obtain ⟨e2, h2, rfl⟩ := List.mem_map.mp he; exact (hall e2 (List.mem_reverse.mp h2)).far⟩, hR.mono (by omega)⟩
  · walk_at "f"
    walk_at "e"
    walk_at "f"
    walk_at "e"
    walk_at "f"
    walk_at "e"
    walk_at "f"
    walk_at "e"
    walk_at "f"
    walk_at "e"
    walk_at "f"
    walk_at "e"
    walk_at "t"
    walk_at "e"
    unfold lE
    walk_at "e"
    rw [cut_to (by omega), cut_from (by omega), ← List.map_take, ← List.map_drop]
    refine ed_addL (by simp; omega) ?_
    walk_at "e"
    refine ⟨1, _, rfl, rfl, ?_⟩
    walk_at "e"
    refine ⟨rfl, a, rfl, by rw [List.length_map]; exact hal, ?_⟩
    walk_at "e"
    walk_at "f"
    walk_at "e"
    exact ⟨cs, rfl, ps.set a (b, es.drop k ++ es.take k), by rw [List.map_set]; simp [pcD, lE, Function.comp_def], by rw [List.length_set]; omega, set_le hle ⟨by show (es.drop k ++ es.take k).length ≤ _; rw [List.length_append, List.length_drop, List.length_take]; omega, fun e he => (List.mem_append.mp he).elim (fun z => hall e (List.mem_of_mem_drop z)) (fun z => hall e (List.mem_of_mem_take z))⟩, hR.mono (by omega)⟩
  · walk_at "f"
    walk_at "e"
    walk_at "f"
    walk_at "e"
    walk_at "f"
    walk_at "e"
    walk_at "f"
    walk_at "e"
    walk_at "f"
    walk_at "e"
    walk_at "f"
    walk_at "e"
    walk_at "f"
    walk_at "e"
    walk_at "t"
    walk_at "e"
    refine ev_IO ⟨_, rfl, ?_⟩
    walk_at "e"
    obtain ⟨d, cs, e, fs, rfl, hfa, hfl, hR⟩ := x__law_bent_k15 hW h hn hne hall (by omega) hR (by omega)
    refine ⟨_, _, e, ?_⟩
    walk_at "e"
    refine ⟨1, _, rfl, rfl, ?_⟩
    walk_at "e"
    refine ⟨rfl, a, rfl, by rw [List.length_map]; exact hal, ?_⟩
    walk_at "e"
    exact ⟨cs, rfl, ps.set a (b, fs), by rw [List.map_set]; rfl, by rw [List.length_set]; omega, set_le hle ⟨by show fs.length ≤ _; omega, hfa⟩, hR.mono (by omega)⟩
theorem lists_pcs (ps : List Pc) : IsPcs (listsD (.list (ps.map pcD))) ps := by
  refine ⟨ps.map fun x => (listsD (pcD x), x), ?_, by rw [List.map_map]; exact (List.map_id _).symm, fun q hq => ?_⟩
  · rw [lists_sq (sq_l _), List.map_map, List.map_map]
    exact sq_l _
  · obtain ⟨x, _, rfl⟩ := List.mem_map.mp hq
    refine ⟨listsD (lE x.2), ?_, ride_lists (ride_lE x.2)⟩
    rw [show listsD (pcD x) = .list ([PyData.str (wordS x.1), lE x.2].map listsD) from lists_sq (sq_t _)]
    exact sq_l _
theorem shw_word (b : Bool) : Shw 0 40 (.str (wordS b)) := by cases b <;> exact ⟨by decide +kernel, by decide +kernel, by decide +kernel, by decide +kernel, by decide +kernel⟩
theorem shw_pc {d : D} {x : Pc} {M : Nat} (h : IsPc d x) (hm : x.2.length ≤ M) (hM : 1 ≤ M) (he : ∀ e ∈ x.2, e.1.natAbs < 10 ^ 12 ∧ e.2.natAbs < 10 ^ 12) : Shw 3 (2 * (M * 83 + 1)) d := by
  obtain ⟨t, s, r⟩ := h
  refine (shw_sq (n := 2) (m := M * 83) s fun y hy => ?_ : Shw (2 + 1) ([PyData.str (wordS x.1), t].length * (M * 83 + 1)) d)
  simp only [List.mem_cons, List.not_mem_nil, or_false] at hy
  rcases hy with rfl | rfl
  · exact (shw_word x.1).mono (by decide) (by omega)
  · exact (shw_ride r he).mono (Nat.le_refl _) (Nat.mul_le_mul_right _ hm)
theorem shw_pcs {d : D} {ps : List Pc} {M : Nat} (h : IsPcs d ps) (hM : 1 ≤ M) (hm : ∀ x ∈ ps, x.2.length ≤ M ∧ ∀ e ∈ x.2, e.1.natAbs < 10 ^ 12 ∧ e.2.natAbs < 10 ^ 12) : Shw 4 (ps.length * (2 * (M * 83 + 1) + 1)) d := by
  obtain ⟨qs, s, rfl, hq⟩ := h
  have := shw_sq (n := 3) (m := 2 * (M * 83 + 1)) s fun y hy => by
    obtain ⟨q, hq2, rfl⟩ := List.mem_map.mp hy
    obtain ⟨h1, h2⟩ := hm q.2 (List.mem_map_of_mem hq2)
    exact shw_pc (hq q hq2) h1 hM h2
  rw [List.length_map] at this
  rw [List.length_map]
  exact this
end Lw

set_option maxHeartbeats 16000000
namespace Lw.k23
open PySem PySem.Spec PyProof.Rows L2 RZ Fu Lw
variable [TabsC]
def topS (i : Nat) : Stmt := PySem.Challenge.pw_changeride_k23_ridings_judged.main.body.getD i (.Pass ⟨0, 0, 0, 0⟩)
abbrev s__law_spring : Stmt := topS 18
theorem sc__law_spring : FnScope ["script", "figures", "stir", "cell"] ["script"] (defScope s__law_spring) := ⟨rfl, rfl, rfl, by decide +kernel, rfl, by decide +kernel, by decide +kernel⟩
abbrev s__law_draw : Stmt := topS 19
theorem sc__law_draw : FnScope ["spring", "many", "found", "stir"] ["spring", "many"] (defScope s__law_draw) := ⟨rfl, rfl, rfl, by decide +kernel, rfl, by decide +kernel, by decide +kernel⟩
abbrev s__law_web : Stmt := topS 22
theorem sc__law_web : FnScope ["spring", "most", "places", "signs", "found", "k", "first", "last"] ["spring", "most"] (defScope s__law_web) := ⟨rfl, rfl, rfl, by decide +kernel, rfl, by decide +kernel, by decide +kernel⟩
abbrev s__law_all_ends : Stmt := topS 20
theorem sc__law_all_ends : FnScope ["web", "k"] ["web"] (defScope s__law_all_ends) := ⟨rfl, rfl, rfl, by decide +kernel, rfl, by decide +kernel, by decide +kernel⟩
abbrev s__law_other : Stmt := topS 24
theorem sc__law_other : FnScope ["end"] ["end"] (defScope s__law_other) := ⟨rfl, rfl, rfl, by decide +kernel, rfl, by decide +kernel, by decide +kernel⟩
abbrev s__law_pieces : Stmt := topS 30
theorem sc__law_pieces : FnScope ["web", "partners", "found", "gone", "some", "word", "end", "row", "one"] ["web", "partners"] (defScope s__law_pieces) := ⟨rfl, rfl, rfl, by decide +kernel, rfl, by decide +kernel, by decide +kernel⟩
abbrev s__law_partners : Stmt := topS 29
theorem sc__law_partners : FnScope ["spring", "web", "often", "found", "place", "left", "end", "some", "later", "line", "side"] ["spring", "web", "often"] (defScope s__law_partners) := ⟨rfl, rfl, rfl, by decide +kernel, rfl, by decide +kernel, by decide +kernel⟩
abbrev s__law_bent : Stmt := topS 33
theorem sc__law_bent : FnScope ["spring", "web", "ride", "found", "at", "kind", "any_end", "later"] ["spring", "web", "ride"] (defScope s__law_bent) := ⟨rfl, rfl, rfl, by decide +kernel, rfl, by decide +kernel, by decide +kernel⟩
abbrev s__law_otherwise : Stmt := topS 35
theorem sc__law_otherwise : FnScope ["spring", "web", "pieces", "found", "at", "word", "ends", "cut", "kind", "later", "end"] ["spring", "web", "pieces"] (defScope s__law_otherwise) := ⟨rfl, rfl, rfl, by decide +kernel, rfl, by decide +kernel, by decide +kernel⟩
abbrev s__law_lines_of : Stmt := topS 21
theorem sc__law_lines_of : FnScope ["pieces", "found", "word", "ends", "end"] ["pieces"] (defScope s__law_lines_of) := ⟨rfl, rfl, rfl, by decide +kernel, rfl, by decide +kernel, by decide +kernel⟩
abbrev s__law_is_end : Stmt := topS 26
theorem sc__law_is_end : FnScope ["web", "thing", "number"] ["web", "thing"] (defScope s__law_is_end) := ⟨rfl, rfl, rfl, by decide +kernel, rfl, by decide +kernel, by decide +kernel⟩
abbrev s__law_at : Stmt := topS 23
theorem sc__law_at : FnScope ["web", "end"] ["web", "end"] (defScope s__law_at) := ⟨rfl, rfl, rfl, by decide +kernel, rfl, by decide +kernel, by decide +kernel⟩
abbrev s__law_goes : Stmt := topS 25
theorem sc__law_goes : FnScope ["web", "end", "later"] ["web", "end", "later"] (defScope s__law_goes) := ⟨rfl, rfl, rfl, by decide +kernel, rfl, by decide +kernel, by decide +kernel⟩
abbrev s__law_is_ride : Stmt := topS 27
theorem sc__law_is_ride : FnScope ["web", "thing", "lines", "end", "line", "k"] ["web", "thing"] (defScope s__law_is_ride) := ⟨rfl, rfl, rfl, by decide +kernel, rfl, by decide +kernel, by decide +kernel⟩
abbrev s__law_is_round : Stmt := topS 28
theorem sc__law_is_round : FnScope ["web", "thing"] ["web", "thing"] (defScope s__law_is_round) := ⟨rfl, rfl, rfl, by decide +kernel, rfl, by decide +kernel, by decide +kernel⟩
abbrev s__law_due : Stmt := topS 34
theorem sc__law_due : FnScope ["web", "pieces", "word", "ends"] ["web", "pieces"] (defScope s__law_due) := ⟨rfl, rfl, rfl, by decide +kernel, rfl, by decide +kernel, by decide +kernel⟩
abbrev s__law_lists : Stmt := topS 31
theorem sc__law_lists : FnScope ["thing", "inner"] ["thing"] (defScope s__law_lists) := ⟨rfl, rfl, rfl, by decide +kernel, rfl, by decide +kernel, by decide +kernel⟩
abbrev s__law_handed : Stmt := topS 32
theorem sc__law_handed : FnScope ["spring", "thing"] ["spring", "thing"] (defScope s__law_handed) := ⟨rfl, rfl, rfl, by decide +kernel, rfl, by decide +kernel, by decide +kernel⟩
abbrev s_is_row : Stmt := topS 3
theorem sc_is_row : FnScope ["thing", "size"] ["thing", "size"] (defScope s_is_row) := ⟨rfl, rfl, rfl, by decide +kernel, rfl, by decide +kernel, by decide +kernel⟩
abbrev s_place_of : Stmt := topS 5
theorem sc_place_of : FnScope ["web", "end"] ["web", "end"] (defScope s_place_of) := ⟨rfl, rfl, rfl, by decide +kernel, rfl, by decide +kernel, by decide +kernel⟩
abbrev s_company_of : Stmt := topS 6
theorem sc_company_of : FnScope ["web", "end"] ["web", "end"] (defScope s_company_of) := ⟨rfl, rfl, rfl, by decide +kernel, rfl, by decide +kernel, by decide +kernel⟩
abbrev s_far_end : Stmt := topS 8
theorem sc_far_end : FnScope ["end"] ["end"] (defScope s_far_end) := ⟨rfl, rfl, rfl, by decide +kernel, rfl, by decide +kernel, by decide +kernel⟩
abbrev s_can_go_on : Stmt := topS 9
theorem sc_can_go_on : FnScope ["web", "end", "later"] ["web", "end", "later"] (defScope s_can_go_on) := ⟨rfl, rfl, rfl, by decide +kernel, rfl, by decide +kernel, by decide +kernel⟩
abbrev s_is_whole : Stmt := topS 2
theorem sc_is_whole : FnScope ["thing"] ["thing"] (defScope s_is_whole) := ⟨rfl, rfl, rfl, by decide +kernel, rfl, by decide +kernel, by decide +kernel⟩
abbrev s_is_end : Stmt := topS 4
theorem sc_is_end : FnScope ["web", "thing"] ["web", "thing"] (defScope s_is_end) := ⟨rfl, rfl, rfl, by decide +kernel, rfl, by decide +kernel, by decide +kernel⟩
abbrev s_ride_is : Stmt := topS 10
theorem sc_ride_is : FnScope ["web", "ride", "end", "later"] ["web", "ride"] (defScope s_ride_is) := ⟨rfl, rfl, rfl, by decide +kernel, rfl, by decide +kernel, by decide +kernel⟩
abbrev s_round_is : Stmt := topS 11
theorem sc_round_is : FnScope ["web", "ride"] ["web", "ride"] (defScope s_round_is) := ⟨rfl, rfl, rfl, by decide +kernel, rfl, by decide +kernel, by decide +kernel⟩
abbrev s_is_piece : Stmt := topS 15
theorem sc_is_piece : FnScope ["web", "thing"] ["web", "thing"] (defScope s_is_piece) := ⟨rfl, rfl, rfl, by decide +kernel, rfl, by decide +kernel, by decide +kernel⟩
abbrev s_riding_is : Stmt := topS 16
theorem sc_riding_is : FnScope ["web", "riding", "piece", "word", "ends", "end"] ["web", "riding"] (defScope s_riding_is) := ⟨rfl, rfl, rfl, by decide +kernel, rfl, by decide +kernel, by decide +kernel⟩
abbrev s_law : Stmt := topS 36
theorem sc_law : FnScope ["script", "spring", "turn", "web", "pieces", "again", "other", "due", "handed", "stays", "found"] ["script"] (defScope s_law) := ⟨rfl, rfl, rfl, by decide +kernel, rfl, by decide +kernel, by decide +kernel⟩
def g_law : Sx → Option Out :=
  (qSeq (qOwn 1 (gCallScr 0 m__law_spring)) (qSeq (qFor (gRng1 (gCons (gBin dAdd (gC (.int 2)) (gCall dMin2 (gCons (gScrLen 0) (gCons (gC (.int 4)) gNil)))) gNil)) (sName 2) (qSeq (qSet 3 (gIO 1 1 m__law_web (gCons (gC (.int 40)) gNil))) (qSeq (qSet 4 (gCallF 2 m__law_pieces (gCons (gVar 3) (gCons (gIO 1 2 m__law_partners (gCons (gVar 3) (gCons (gBin dAdd (gC (.int 2)) (gIO 1 1 m__law_draw_k15 (gCons (gC (.int 9)) gNil))) gNil))) gNil)))) (qSeq (qIf (gOr (gB (gBin dIsNot (gCallF 2 m_riding_is (gCons (gVar 3) (gCons (gIO 1 1 m__law_handed (gCons (gVar 4) gNil)) gNil))) (gC (.bool true)))) (gB (gBin dIsNot (gCallF 2 m_riding_is (gCons (gVar 3) (gCons (gCall dTuple (gCons (gUn dRevL (gVar 4)) gNil)) gNil))) (gC (.bool true))))) (qRet (gC (.bool false))) qNx) (qFor (gRng1 (gCons (gBin dMul (gC (.int 6)) (gCall dInt (gCons (gBin dNe (gVar 4) (gLst gNil)) gNil))) gNil)) (sName 5) (qSeq (qSet 6 (gIO 1 2 m__law_otherwise (gCons (gVar 3) (gCons (gVar 4) gNil)))) (qSeq (qSet 7 (gCallF 2 m__law_due (gCons (gVar 3) (gCons (gVar 6) gNil)))) (qSeq (qSet 8 (gIO 1 1 m__law_handed (gCons (gVar 6) gNil))) (qSeq (qSet 9 (gCall dRepr (gCons (gVar 8) gNil))) (qSeq (qSet 10 (gCallF 2 m_riding_is (gCons (gIO 1 1 m__law_handed (gCons (gVar 3) gNil)) (gCons (gVar 8) gNil)))) (qIf (gOr (gNot (gB (gIsi "bool" (gVar 10)))) (gOr (gB (gBin dNe (gVar 10) (gVar 7))) (gB (gBin dNe (gCall dRepr (gCons (gVar 8) gNil)) (gVar 9))))) (qRet (gC (.bool false))) qNx))))))))))) (qRet (gAndV (gBin dIs (gCallF 2 m_riding_is (gCons (gTup (gCons (gC (.int 3)) (gCons (gTup gNil) gNil))) (gCons (gLst gNil) gNil))) (gC (.bool true))) (gBin dIs (gCallF 2 m_riding_is (gCons (gTup (gCons (gC (.int 1)) (gCons (gTup (gCons (gTup (gCons (gC (.int 0)) (gCons (gC (.int 0)) (gCons (gC (.str "a")) gNil)))) gNil)) gNil))) (gCons (gLst gNil) gNil))) (gC (.bool false)))))))
structure Tx (K : PySem.W.Frag) (mg : Str → Option Value) : Prop where
  z_abs : mg "abs" = none
  z_all : mg "all" = none
  z_bool : mg "bool" = none
  z_int : mg "int" = none
  z_isinstance : mg "isinstance" = none
  z_len : mg "len" = none
  z_list : mg "list" = none
  z_min : mg "min" = none
  z_range : mg "range" = none
  z_repr : mg "repr" = none
  z_set : mg "set" = none
  z_sorted : mg "sorted" = none
  z_str : mg "str" = none
  z_tuple : mg "tuple" = none
  z_zip : mg "zip" = none
  c_RIDE : ∃ t, mg "RIDE" = some (.str "ride" t)
  c_ROUND : ∃ t, mg "ROUND" = some (.str "round" t)
  c_SIDES : ∃ t, mg "SIDES" = some (.int 2 t)
  d__law_spring : DefAt K mg "_law_spring" s__law_spring ["script"]
  d__law_draw : DefAt K mg "_law_draw" s__law_draw ["spring", "many"]
  d__law_web : DefAt K mg "_law_web" s__law_web ["spring", "most"]
  d__law_all_ends : DefAt K mg "_law_all_ends" s__law_all_ends ["web"]
  d__law_other : DefAt K mg "_law_other" s__law_other ["end"]
  d__law_pieces : DefAt K mg "_law_pieces" s__law_pieces ["web", "partners"]
  d__law_partners : DefAt K mg "_law_partners" s__law_partners ["spring", "web", "often"]
  d__law_bent : DefAt K mg "_law_bent" s__law_bent ["spring", "web", "ride"]
  d__law_otherwise : DefAt K mg "_law_otherwise" s__law_otherwise ["spring", "web", "pieces"]
  d__law_lines_of : DefAt K mg "_law_lines_of" s__law_lines_of ["pieces"]
  d__law_is_end : DefAt K mg "_law_is_end" s__law_is_end ["web", "thing"]
  d__law_at : DefAt K mg "_law_at" s__law_at ["web", "end"]
  d__law_goes : DefAt K mg "_law_goes" s__law_goes ["web", "end", "later"]
  d__law_is_ride : DefAt K mg "_law_is_ride" s__law_is_ride ["web", "thing"]
  d__law_is_round : DefAt K mg "_law_is_round" s__law_is_round ["web", "thing"]
  d__law_due : DefAt K mg "_law_due" s__law_due ["web", "pieces"]
  d__law_lists : DefAt K mg "_law_lists" s__law_lists ["thing"]
  d__law_handed : DefAt K mg "_law_handed" s__law_handed ["spring", "thing"]
  d_is_row : DefAt K mg "is_row" s_is_row ["thing", "size"]
  d_place_of : DefAt K mg "place_of" s_place_of ["web", "end"]
  d_company_of : DefAt K mg "company_of" s_company_of ["web", "end"]
  d_far_end : DefAt K mg "far_end" s_far_end ["end"]
  d_can_go_on : DefAt K mg "can_go_on" s_can_go_on ["web", "end", "later"]
  d_is_whole : DefAt K mg "is_whole" s_is_whole ["thing"]
  d_is_end : DefAt K mg "is_end" s_is_end ["web", "thing"]
  d_ride_is : DefAt K mg "ride_is" s_ride_is ["web", "ride"]
  d_round_is : DefAt K mg "round_is" s_round_is ["web", "ride"]
  d_is_piece : DefAt K mg "is_piece" s_is_piece ["web", "thing"]
  d_riding_is : DefAt K mg "riding_is" s_riding_is ["web", "riding"]
  d_law : DefAt K mg "law" s_law ["script"]
section
variable {P : Program} {w : World} {K : PySem.W.Frag} {mg : Str → Option Value} {base : Heap}
theorem has__law_spring (T : Tx K mg) : Has P w K mg base "_law_spring" 1 ["script"] (spScrN K m__law_spring) := has_scrN T.d__law_spring sc__law_spring (by rfl) (by decide) fun f cdv A outer s H E hr =>
  (ss_cons (s_set 1 sc__law_spring.nd e_int) (ss_cons (s_set 2 sc__law_spring.nd e_int) (ss_cons (s_for PassesOwn.never (i_any (e_scrSl 0 o_none (o_some e_int))) (g_name 3 sc__law_spring.nd) (ss_cons (s_if (t_ge (e_abs T.z_abs (a_cons (e_var 3) a_nil)) (e_pow e_int e_int)) (ss_one (s_set 1 sc__law_spring.nd (e_add (e_mul (e_var 1) (e_pow e_int e_int)) (e_mod (e_abs T.z_abs (a_cons (e_var 3) a_nil)) (e_pow e_int e_int))))) ss_nil) (ss_one (s_set 2 sc__law_spring.nd (e_mod (e_add (e_add (e_mul (e_var 2) e_int) (e_mod (e_var 3) e_int)) e_int) e_int)))) (fun _ => trivial)) (ss_one (s_retNew (n_lst (a_cons (e_var 1) (a_cons (e_var 2) (a_cons e_int a_nil)))))))))
theorem has__law_draw (T : Tx K mg) : Has P w K mg base "_law_draw" 1 ["spring", "many"] (spIO K 1 m__law_draw_k15) := has_io T.d__law_draw sc__law_draw (by rfl) (by decide) fun f cdv A outer s H E hr =>
  (ss_cons (s_if (t_gt (e_ixO 0 e_int) e_int) (ss_cons (s_set 2 sc__law_draw.nd (e_mod (e_ixO 0 e_int) (e_var 1))) (ss_cons (s_setO 0 e_int (e_div (e_ixO 0 e_int) (e_var 1))) (ss_one (s_ret (e_var 2))))) ss_nil) (ss_cons (s_setO 0 e_int (e_add (e_ixO 0 e_int) e_int)) (ss_cons (s_set 3 sc__law_draw.nd (e_mod (e_mul (e_ixO 0 e_int) (e_ixO 0 e_int)) e_int)) (ss_cons (s_setO 0 e_int (e_mod (e_add (e_add (e_var 3) (e_mul (e_mul e_int (e_ixO 0 e_int)) (e_ixO 0 e_int))) e_int) e_int)) (ss_one (s_ret (e_mod (e_div (e_ixO 0 e_int) e_int) (e_var 1))))))))
theorem has__law_web (T : Tx K mg) : Has P w K mg base "_law_web" 2 ["spring", "most"] (spIO K 1 m__law_web) := has_io T.d__law_web sc__law_web (by rfl) (by decide) fun f cdv A outer s H E hr =>
  (ss_cons (s_set 2 sc__law_web.nd (e_add e_int (e_callHIO 0 (has__law_draw T) (hr.mono (by decide)) (a_cons (e_ix (e_lst (a_cons e_int (a_cons e_int (a_cons e_int (a_cons e_int a_nil))))) (e_callHIO 0 (has__law_draw T) (hr.mono (by decide)) (a_cons e_int a_nil))) a_nil)))) (ss_cons (s_set 3 sc__law_web.nd (e_ix (e_lst (a_cons e_str (a_cons e_str (a_cons e_str (a_cons e_str (a_cons e_str (a_cons e_str a_nil))))))) (e_callHIO 0 (has__law_draw T) (hr.mono (by decide)) (a_cons e_int a_nil)))) (ss_cons (s_own 4 sc__law_web.nd (n_lst a_nil)) (ss_cons (s_for0 PassesOwn.never (i0_range1 T.z_range (a_cons (e_callHIO 0 (has__law_draw T) (hr.mono (by decide)) (a_cons (e_add (e_var 1) e_int) a_nil)) a_nil)) (g_name 5 sc__law_web.nd) (ss_cons (s_set 6 sc__law_web.nd (e_callHIO 0 (has__law_draw T) (hr.mono (by decide)) (a_cons (e_var 2) a_nil))) (ss_cons (s_set 7 sc__law_web.nd (e_ix (e_lst (a_cons (e_callHIO 0 (has__law_draw T) (hr.mono (by decide)) (a_cons (e_var 2) a_nil)) (a_cons (e_var 6) (a_cons (e_mod (e_add (e_var 6) e_int) (e_var 2)) a_nil)))) (e_ix (e_lst (a_cons e_int (a_cons e_int (a_cons e_int (a_cons e_int a_nil))))) (e_callHIO 0 (has__law_draw T) (hr.mono (by decide)) (a_cons e_int a_nil))))) (ss_one (s_expr (e_append 4 (e_tup (a_cons (e_var 6) (a_cons (e_var 7) (a_cons (e_ix (e_var 3) (e_callHIO 0 (has__law_draw T) (hr.mono (by decide)) (a_cons (e_len T.z_len (a_cons (e_var 3) a_nil)) a_nil))) a_nil)))))))))) (ss_one (s_ret (e_tup (a_cons (e_var 2) (a_cons (e_tuple T.z_tuple (a_cons (e_var 4) a_nil)) a_nil)))))))))
theorem has__law_all_ends (T : Tx K mg) : Has P w K mg base "_law_all_ends" 1 ["web"] (spF K 1 m__law_all_ends) := has_pure T.d__law_all_ends sc__law_all_ends (by rfl) (by decide) fun f cdv A outer s H E hr =>
  (ss_one (s_ret (n_lc [("k", 1)] sc__law_all_ends.nd (i_range1 T.z_range (a_cons (e_mul e_int (e_len T.z_len (a_cons (e_ix (e_var 0) e_int) a_nil))) a_nil)) (blkOk_by (N := ["web", "k"]) (sc := defScope s__law_all_ends) (by decide +kernel)) (fun _ _ _ _ _ => (g_name 1 sc__law_all_ends.nd)) (fun _ _ _ _ _ => ts_nil) (fun _ _ _ _ _ => (e_tup (a_cons (e_div (e_var 1) e_int) (a_cons (e_mod (e_var 1) e_int) a_nil))))).e))
theorem has__law_other (T : Tx K mg) : Has P w K mg base "_law_other" 1 ["end"] (spF K 1 m__law_other) := has_pure T.d__law_other sc__law_other (by rfl) (by decide) fun f cdv A outer s H E hr =>
  (ss_one (s_ret (e_tup (a_cons (e_ix (e_var 0) e_int) (a_cons (e_sub e_int (e_ix (e_var 0) e_int)) a_nil)))))
theorem has__law_pieces (T : Tx K mg) : Has P w K mg base "_law_pieces" 2 ["web", "partners"] (spF K 2 m__law_pieces) := has_pure T.d__law_pieces sc__law_pieces (by rfl) (by decide) fun f cdv A outer s H E hr =>
  (ss_cons (s_own 2 sc__law_pieces.nd (n_lst a_nil)) (ss_cons (s_own 3 sc__law_pieces.nd (n_lst a_nil)) (ss_cons (s_set 4 sc__law_pieces.nd (e_callH (has__law_all_ends T) (hr.mono (by decide)) (a_cons (e_var 0) a_nil))) (ss_cons (s_for PassesOwn.never (i_any (e_lst (a_cons e_str (a_cons e_str a_nil)))) (g_name 5 sc__law_pieces.nd) (ss_one (s_for PassesOwn.never (i_any (e_var 4)) (g_name 6 sc__law_pieces.nd) (ss_one (s_if (t_w (w_and (t_notInO 3 (hu65 hr) (e_ix (e_var 6) e_int)) (w_and1 (t_w (w_or (t_eq hr.units (e_var 5) e_str) (w_or1 (t_notInT hr (e_var 6) (e_var 1)))))))) (ss_cons (s_own 7 sc__law_pieces.nd (n_lst (a_cons (e_var 6) a_nil))) (ss_cons (s_while 100000 PassesOwn.never (t_w (w_and (t_inT hr (e_callH (has__law_other T) (hr.mono (by decide)) (a_cons (e_ixO 7 (e_neg e_int)) a_nil)) (e_var 1)) (w_and1 (t_ne hr.units (e_ixT hr (e_var 1) (e_callH (has__law_other T) (hr.mono (by decide)) (a_cons (e_ixO 7 (e_neg e_int)) a_nil))) (e_var 6))))) (ss_one (s_expr (e_append 7 (e_ixT hr (e_var 1) (e_callH (has__law_other T) (hr.mono (by decide)) (a_cons (e_ixO 7 (e_neg e_int)) a_nil))))))) (ss_cons (s_expr (e_extend 3 (n_lc [("one", 8)] sc__law_pieces.nd (i_any (e_var 7)) (blkOk_by (N := ["web", "partners", "found", "gone", "some", "word", "end", "row", "one"]) (sc := defScope s__law_pieces) (by decide +kernel)) (fun _ _ _ _ _ => (g_name 8 sc__law_pieces.nd)) (fun _ _ _ _ _ => ts_nil) (fun _ _ _ _ _ => (e_ix (e_var 8) e_int))).e)) (ss_one (s_expr (e_append 2 (e_tup (a_cons (e_var 5) (a_cons (e_var 7) a_nil))))))))) ss_nil)) (fun _ => trivial))) (fun _ => trivial)) (ss_one (s_ret (e_var 2)))))))
theorem has__law_partners (T : Tx K mg) : Has P w K mg base "_law_partners" 2 ["spring", "web", "often"] (spIO K 2 m__law_partners) := has_io T.d__law_partners sc__law_partners (by rfl) (by decide) fun f cdv A outer s H E hr =>
  (ss_cons (s_dictT0 3 sc__law_partners.nd) (ss_cons (s_for0 PassesOwn.never (i0_range1 T.z_range (a_cons (e_ix (e_var 1) e_int) a_nil)) (g_name 4 sc__law_partners.nd) (ss_cons (s_ownLc (lc1 5 [("line", 9), ("side", 10)] sc__law_partners.nd (i_any (e_callH (has__law_all_ends T) (hr.mono (by decide)) (a_cons (e_var 1) a_nil))) (blkOk_by (N := ["spring", "web", "often", "found", "place", "left", "end", "some", "later", "line", "side"]) (sc := defScope s__law_partners) (by decide +kernel)) (fun _ _ _ _ _ => (g_tup (gs_cons (g_name 9 sc__law_partners.nd) (gs_cons (g_name 10 sc__law_partners.nd) gs_nil)))) (fun _ _ _ _ _ => (ts_one (t_eq hr.units (e_ix (e_ix (e_ix (e_var 1) e_int) (e_var 9)) (e_var 10)) (e_var 4)))) (fun _ _ _ _ _ => (e_tup (a_cons (e_var 9) (a_cons (e_var 10) a_nil)))))) (ss_one (s_while 100000 PassesOwn.never (t_neO 5 hr.units (e_lst a_nil)) (ss_cons (s_set 6 sc__law_partners.nd (e_popAt 5 (e_callHIO 0 (has__law_draw T) (hr.mono (by decide)) (a_cons (e_lenO 5 T.z_len) a_nil)))) (ss_cons (s_setLcV (lc1 7 [("later", 8)] sc__law_partners.nd (i_any (e_var 5)) (blkOk_by (N := ["spring", "web", "often", "found", "place", "left", "end", "some", "later", "line", "side"]) (sc := defScope s__law_partners) (by decide +kernel)) (fun _ _ _ _ _ => (g_name 8 sc__law_partners.nd)) (fun _ _ _ _ _ => (ts_one (t_ne hr.units (e_ix (e_ix (e_ix (e_var 1) e_int) (e_ix (e_var 8) e_int)) e_int) (e_ix (e_ix (e_ix (e_var 1) e_int) (e_ix (e_var 6) e_int)) e_int)))) (fun _ _ _ _ _ => (e_var 8)))) (ss_one (s_if (t_w (w_and (t_ne hr.units (e_var 7) (e_lst a_nil)) (w_and1 (t_gt (e_callHIO 0 (has__law_draw T) (hr.mono (by decide)) (a_cons (e_var 2) a_nil)) e_int)))) (ss_cons (s_set 8 sc__law_partners.nd (e_ix (e_var 7) (e_callHIO 0 (has__law_draw T) (hr.mono (by decide)) (a_cons (e_len T.z_len (a_cons (e_var 7) a_nil)) a_nil)))) (ss_cons (s_expr (e_remove hr 5 (e_var 8))) (ss_cons (s_asg (g_ixT hr (tgt := []) 3 (e_var 6)) (e_var 8)) (ss_one (s_asg (g_ixT hr (tgt := []) 3 (e_var 8)) (e_var 6)))))) ss_nil)))))))) (ss_one (s_ret (e_frzT 3)))))
theorem has__law_bent (T : Tx K mg) : Has P w K mg base "_law_bent" 2 ["spring", "web", "ride"] (spIO K 2 m__law_bent_k15) := has_io T.d__law_bent sc__law_bent (by rfl) (by decide) fun f cdv A outer s H E hr =>
  (ss_cons (s_own 3 sc__law_bent.nd (n_list T.z_list (a_cons (e_var 2) a_nil))) (ss_cons (s_set 4 sc__law_bent.nd (e_callHIO 0 (has__law_draw T) (hr.mono (by decide)) (a_cons (e_lenO 3 T.z_len) a_nil))) (ss_cons (s_set 5 sc__law_bent.nd (e_callHIO 0 (has__law_draw T) (hr.mono (by decide)) (a_cons e_int a_nil))) (ss_cons (s_set 6 sc__law_bent.nd (e_tup (a_cons (e_callHIO 0 (has__law_draw T) (hr.mono (by decide)) (a_cons (e_len T.z_len (a_cons (e_ix (e_var 1) e_int) a_nil)) a_nil)) (a_cons (e_callHIO 0 (has__law_draw T) (hr.mono (by decide)) (a_cons e_int a_nil)) a_nil)))) (ss_cons (s_if (t_eq hr.units (e_var 5) e_int) (ss_one (s_setO 3 (e_var 4) (e_tup (a_cons (e_ix (e_ixO 3 (e_var 4)) e_int) (a_cons (e_sub e_int (e_ix (e_ixO 3 (e_var 4)) e_int)) a_nil))))) ss_nil) (ss_cons (s_if (t_eq hr.units (e_var 5) e_int) (ss_one (s_setO 3 (e_var 4) (e_var 6))) ss_nil) (ss_cons (s_if (t_eq hr.units (e_var 5) e_int) (ss_one (s_own 3 sc__law_bent.nd (n_cat (n_slO 3 o_none (o_some (e_var 4))).e (n_slO 3 (o_some (e_add (e_var 4) e_int)) o_none).e))) ss_nil) (ss_cons (s_if (t_eq hr.units (e_var 5) e_int) (ss_one (s_own 3 sc__law_bent.nd (n_cat (e_add (n_slO 3 o_none (o_some (e_var 4))).e (e_lst (a_cons (e_ixO 3 (e_var 4)) a_nil))) (n_slO 3 (o_some (e_var 4)) o_none).e))) ss_nil) (ss_cons (s_if (t_eq hr.units (e_var 5) e_int) (ss_one (s_own 3 sc__law_bent.nd (n_revL (e_var 3)))) ss_nil) (ss_cons (s_if (t_eq hr.units (e_var 5) e_int) (ss_one (s_own 3 sc__law_bent.nd (n_cat (n_slO 3 (o_some (e_var 4)) o_none).e (n_slO 3 o_none (o_some (e_var 4))).e))) ss_nil) (ss_cons (s_if (t_eq hr.units (e_var 5) e_int) (ss_one (s_own 3 sc__law_bent.nd (n_cat (e_add (n_slO 3 o_none (o_some (e_var 4))).e (e_lst (a_cons (e_var 6) a_nil))) (n_slO 3 (o_some (e_var 4)) o_none).e))) ss_nil) (ss_cons (s_if (t_eq hr.units (e_var 5) e_int) (ss_one (s_own 3 sc__law_bent.nd (n_slO 3 o_none (o_some (e_add (e_var 4) e_int))))) ss_nil) (ss_cons (s_if (t_eq hr.units (e_var 5) e_int) (ss_cons (s_set 7 sc__law_bent.nd (e_callHIO 0 (has__law_draw T) (hr.mono (by decide)) (a_cons (e_lenO 3 T.z_len) a_nil))) (ss_one (s_asg (g_tup (gs_cons (g_ixO (tgt := []) 3 (e_var 4)) (gs_cons (g_ixO (tgt := []) 3 (e_var 7)) gs_nil))) (e_tup (a_cons (e_ixO 3 (e_var 7)) (a_cons (e_ixO 3 (e_var 4)) a_nil)))))) ss_nil) (ss_one (s_ret (e_var 3))))))))))))))))
theorem has__law_otherwise (T : Tx K mg) : Has P w K mg base "_law_otherwise" 3 ["spring", "web", "pieces"] (spIO K 2 m__law_otherwise) := has_io T.d__law_otherwise sc__law_otherwise (by rfl) (by decide) fun f cdv A outer s H E hr =>
  (ss_cons (s_own 3 sc__law_otherwise.nd (n_list T.z_list (a_cons (e_var 2) a_nil))) (ss_cons (s_set 4 sc__law_otherwise.nd (e_callHIO 0 (has__law_draw T) (hr.mono (by decide)) (a_cons (e_lenO 3 T.z_len) a_nil))) (ss_cons (s_asg (g_tup (gs_cons (g_name 5 sc__law_otherwise.nd) (gs_cons (g_name 6 sc__law_otherwise.nd) gs_nil))) (e_ixO 3 (e_var 4))) (ss_cons (s_set 7 sc__law_otherwise.nd (e_callHIO 0 (has__law_draw T) (hr.mono (by decide)) (a_cons (e_len T.z_len (a_cons (e_var 6) a_nil)) a_nil))) (ss_cons (s_set 8 sc__law_otherwise.nd (e_callHIO 0 (has__law_draw T) (hr.mono (by decide)) (a_cons e_int a_nil))) (ss_cons (s_if (t_eq hr.units (e_var 8) e_int) (ss_one (s_expr (e_popAt 3 (e_var 4)))) ss_nil) (ss_cons (s_if (t_eq hr.units (e_var 8) e_int) (ss_one (s_expr (e_append 3 (e_ixO 3 (e_var 4))))) ss_nil) (ss_cons (s_if (t_eq hr.units (e_var 8) e_int) (ss_one (s_setO 3 (e_var 4) (e_tup (a_cons (e_ix (e_lst (a_cons e_str (a_cons e_str a_nil))) (e_intOf T.z_int (a_cons (e_eq hr.units (e_var 5) e_str) a_nil))) (a_cons (e_var 6) a_nil))))) ss_nil) (ss_cons (s_if (t_w (w_and (t_eq hr.units (e_var 8) e_int) (w_and1 (t_gt (e_var 7) e_int)))) (ss_one (s_asg (g_slO (tgt := []) 3 (o_some (e_var 4)) (o_some (e_add (e_var 4) e_int))) (e_lst (a_cons (e_tup (a_cons e_str (a_cons (e_sl (e_var 6) o_none (o_some (e_var 7))) a_nil))) (a_cons (e_tup (a_cons e_str (a_cons (e_sl (e_var 6) (o_some (e_var 7)) o_none) a_nil))) a_nil))))) ss_nil) (ss_cons (s_if (t_eq hr.units (e_var 8) e_int) (ss_cons (s_set 9 sc__law_otherwise.nd (e_callHIO 0 (has__law_draw T) (hr.mono (by decide)) (a_cons (e_lenO 3 T.z_len) a_nil))) (ss_cons (s_setO 3 (e_var 4) (e_tup (a_cons (e_var 5) (a_cons (e_add (e_var 6) (e_ix (e_ixO 3 (e_var 9)) e_int)) a_nil)))) (ss_one (s_own 3 sc__law_otherwise.nd (n_cat (n_slO 3 o_none (o_some (e_var 9))).e (n_slO 3 (o_some (e_add (e_var 9) e_int)) o_none).e))))) ss_nil) (ss_cons (s_if (t_eq hr.units (e_var 8) e_int) (ss_one (s_setO 3 (e_var 4) (e_tup (a_cons (e_var 5) (a_cons (n_lc [("end", 10)] sc__law_otherwise.nd (i_any (n_revL (e_var 6)).e) (blkOk_by (N := ["spring", "web", "pieces", "found", "at", "word", "ends", "cut", "kind", "later", "end"]) (sc := defScope s__law_otherwise) (by decide +kernel)) (fun _ _ _ _ _ => (g_name 10 sc__law_otherwise.nd)) (fun _ _ _ _ _ => ts_nil) (fun _ _ _ _ _ => (e_callH (has__law_other T) (hr.mono (by decide)) (a_cons (e_var 10) a_nil)))).e a_nil))))) ss_nil) (ss_cons (s_if (t_eq hr.units (e_var 8) e_int) (ss_one (s_setO 3 (e_var 4) (e_tup (a_cons (e_var 5) (a_cons (e_add (e_sl (e_var 6) (o_some (e_var 7)) o_none) (e_sl (e_var 6) o_none (o_some (e_var 7)))) a_nil))))) ss_nil) (ss_cons (s_if (t_eq hr.units (e_var 8) e_int) (ss_one (s_setO 3 (e_var 4) (e_tup (a_cons (e_var 5) (a_cons (e_callHIO 0 (has__law_bent T) (hr.mono (by decide)) (a_cons (e_var 1) (a_cons (e_var 6) a_nil))) a_nil))))) ss_nil) (ss_one (s_ret (e_var 3))))))))))))))))
theorem has__law_lines_of (T : Tx K mg) : Has P w K mg base "_law_lines_of" 1 ["pieces"] (spF K 1 m__law_lines_of) := has_pure T.d__law_lines_of sc__law_lines_of (by rfl) (by decide) fun f cdv A outer s H E hr =>
  (ss_cons (s_own 1 sc__law_lines_of.nd (n_lst a_nil)) (ss_cons (s_for PassesOwn.never (i_any (e_var 0)) (g_tup (gs_cons (g_name 2 sc__law_lines_of.nd) (gs_cons (g_name 3 sc__law_lines_of.nd) gs_nil))) (ss_one (s_expr (e_extend 1 (n_lc [("end", 4)] sc__law_lines_of.nd (i_any (e_var 3)) (blkOk_by (N := ["pieces", "found", "word", "ends", "end"]) (sc := defScope s__law_lines_of) (by decide +kernel)) (fun _ _ _ _ _ => (g_name 4 sc__law_lines_of.nd)) (fun _ _ _ _ _ => ts_nil) (fun _ _ _ _ _ => (e_ix (e_var 4) e_int))).e))) (fun _ => trivial)) (ss_one (s_ret (e_sorted hr T.z_sorted (a_cons (e_var 1) a_nil))))))
theorem has__law_is_end (T : Tx K mg) : Has P w K mg base "_law_is_end" 1 ["web", "thing"] (spF K 2 m__law_is_end_k15) := has_pure T.d__law_is_end sc__law_is_end (by rfl) (by decide) fun f cdv A outer s H E hr =>
  (ss_cons (s_if (t_w (w_or (t_not (t_val (e_isi2 T.z_isinstance T.z_list (by decide +kernel) kit_list T.z_tuple (by decide +kernel) kit_tuple (e_var 1)))) (w_or1 (t_ne hr.units (e_len T.z_len (a_cons (e_var 1) a_nil)) e_int)))) (ss_one (s_ret e_bl)) ss_nil) (ss_cons (s_if (t_ne hr.units (n_lc [("number", 2)] sc__law_is_end.nd (i_any (e_var 1)) (blkOk_by (N := ["web", "thing", "number"]) (sc := defScope s__law_is_end) (by decide +kernel)) (fun _ _ _ _ _ => (g_name 2 sc__law_is_end.nd)) (fun _ _ _ _ _ => (ts_one (t_w (w_or (t_val (e_isi T.z_isinstance T.z_bool (by decide +kernel) kit_bool (e_var 2))) (w_or1 (t_not (t_val (e_isi T.z_isinstance T.z_int (by decide +kernel) kit_int (e_var 2))))))))) (fun _ _ _ _ _ => (e_var 2))).e (e_lst a_nil)) (ss_one (s_ret e_bl)) ss_nil) (ss_one (s_ret (e_and (e_chain op_le op_lt (rd_cmp _) (rd_cmp _) e_int (e_ix (e_var 1) e_int) (e_len T.z_len (a_cons (e_ix (e_var 0) e_int) a_nil))) (e_one (e_chain op_le op_le (rd_cmp _) (rd_cmp _) e_int (e_ix (e_var 1) e_int) e_int)))))))
theorem has__law_at (T : Tx K mg) : Has P w K mg base "_law_at" 1 ["web", "end"] (spF K 2 m__law_at) := has_pure T.d__law_at sc__law_at (by rfl) (by decide) fun f cdv A outer s H E hr =>
  (ss_one (s_ret (e_ix (e_ix (e_ix (e_var 0) e_int) (e_ix (e_var 1) e_int)) (e_ix (e_var 1) e_int))))
theorem has__law_goes (T : Tx K mg) : Has P w K mg base "_law_goes" 2 ["web", "end", "later"] (spF K 3 m__law_goes) := has_pure T.d__law_goes sc__law_goes (by rfl) (by decide) fun f cdv A outer s H E hr =>
  (ss_cons (s_if (t_ne hr.units (e_callH (has__law_at T) (hr.mono (by decide)) (a_cons (e_var 0) (a_cons (e_callH (has__law_other T) (hr.mono (by decide)) (a_cons (e_var 1) a_nil)) a_nil))) (e_callH (has__law_at T) (hr.mono (by decide)) (a_cons (e_var 0) (a_cons (e_var 2) a_nil)))) (ss_one (s_ret e_bl)) ss_nil) (ss_one (s_ret (e_ne hr.units (e_ix (e_ix (e_ix (e_var 0) e_int) (e_ix (e_var 1) e_int)) e_int) (e_ix (e_ix (e_ix (e_var 0) e_int) (e_ix (e_var 2) e_int)) e_int)))))
theorem has__law_is_ride (T : Tx K mg) : Has P w K mg base "_law_is_ride" 3 ["web", "thing"] (spF K 2 m__law_is_ride) := has_pure T.d__law_is_ride sc__law_is_ride (by rfl) (by decide) fun f cdv A outer s H E hr =>
  (ss_cons (s_if (t_w (w_or (t_not (t_val (e_isi2 T.z_isinstance T.z_list (by decide +kernel) kit_list T.z_tuple (by decide +kernel) kit_tuple (e_var 1)))) (w_or1 (t_eq hr.units (e_len T.z_len (a_cons (e_var 1) a_nil)) e_int)))) (ss_one (s_ret e_bl)) ss_nil) (ss_cons (s_if (t_ne hr.units (n_lc [("end", 3)] sc__law_is_ride.nd (i_any (e_var 1)) (blkOk_by (N := ["web", "thing", "lines", "end", "line", "k"]) (sc := defScope s__law_is_ride) (by decide +kernel)) (fun _ _ _ _ _ => (g_name 3 sc__law_is_ride.nd)) (fun _ _ _ _ _ => (ts_one (t_not (t_val (e_callH (has__law_is_end T) (hr.mono (by decide)) (a_cons (e_var 0) (a_cons (e_var 3) a_nil))))))) (fun _ _ _ _ _ => (e_var 3))).e (e_lst a_nil)) (ss_one (s_ret e_bl)) ss_nil) (ss_cons (s_set 2 sc__law_is_ride.nd (n_lc [("end", 3)] sc__law_is_ride.nd (i_any (e_var 1)) (blkOk_by (N := ["web", "thing", "lines", "end", "line", "k"]) (sc := defScope s__law_is_ride) (by decide +kernel)) (fun _ _ _ _ _ => (g_name 3 sc__law_is_ride.nd)) (fun _ _ _ _ _ => ts_nil) (fun _ _ _ _ _ => (e_ix (e_var 3) e_int))).e) (ss_cons (s_if (t_ne hr.units (n_lc [("line", 4)] sc__law_is_ride.nd (i_any (e_var 2)) (blkOk_by (N := ["web", "thing", "lines", "end", "line", "k"]) (sc := defScope s__law_is_ride) (by decide +kernel)) (fun _ _ _ _ _ => (g_name 4 sc__law_is_ride.nd)) (fun _ _ _ _ _ => (ts_one (t_gt (e_count hr (e_var 2) (e_var 4)) e_int))) (fun _ _ _ _ _ => (e_var 4))).e (e_lst a_nil)) (ss_one (s_ret e_bl)) ss_nil) (ss_one (s_ret (e_eq hr.units (n_lc [("k", 5)] sc__law_is_ride.nd (i_range2 T.z_range (a_cons e_int (a_cons (e_len T.z_len (a_cons (e_var 1) a_nil)) a_nil))) (blkOk_by (N := ["web", "thing", "lines", "end", "line", "k"]) (sc := defScope s__law_is_ride) (by decide +kernel)) (fun _ _ _ _ _ => (g_name 5 sc__law_is_ride.nd)) (fun _ _ _ _ _ => (ts_one (t_not (t_val (e_callH (has__law_goes T) (hr.mono (by decide)) (a_cons (e_var 0) (a_cons (e_ix (e_var 1) (e_sub (e_var 5) e_int)) (a_cons (e_ix (e_var 1) (e_var 5)) a_nil)))))))) (fun _ _ _ _ _ => (e_var 5))).e (e_lst a_nil))))))))
theorem has__law_is_round (T : Tx K mg) : Has P w K mg base "_law_is_round" 4 ["web", "thing"] (spF K 2 m__law_is_round) := has_pure T.d__law_is_round sc__law_is_round (by rfl) (by decide) fun f cdv A outer s H E hr =>
  (ss_one (s_ret (e_and (e_callH (has__law_is_ride T) (hr.mono (by decide)) (a_cons (e_var 0) (a_cons (e_var 1) a_nil))) (e_one (e_callH (has__law_goes T) (hr.mono (by decide)) (a_cons (e_var 0) (a_cons (e_ix (e_var 1) (e_neg e_int)) (a_cons (e_ix (e_var 1) e_int) a_nil))))))))
theorem has__law_due (T : Tx K mg) : Has P w K mg base "_law_due" 5 ["web", "pieces"] (spF K 2 m__law_due) := has_pure T.d__law_due sc__law_due (by rfl) (by decide) fun f cdv A outer s H E hr =>
  (ss_cons (s_for PassesOwn.never (i_any (e_var 1)) (g_tup (gs_cons (g_name 2 sc__law_due.nd) (gs_cons (g_name 3 sc__law_due.nd) gs_nil))) (ss_one (s_if (t_not (t_if (t_eq hr.units (e_var 2) e_str) (t_val (e_callH (has__law_is_ride T) (hr.mono (by decide)) (a_cons (e_var 0) (a_cons (e_var 3) a_nil)))) (t_val (e_callH (has__law_is_round T) (hr.mono (by decide)) (a_cons (e_var 0) (a_cons (e_var 3) a_nil)))))) (ss_one (s_ret e_bl)) ss_nil)) (fun _ => trivial)) (ss_one (s_ret (e_eq hr.units (e_callH (has__law_lines_of T) (hr.mono (by decide)) (a_cons (e_var 1) a_nil)) (n_listRng1 T.z_list T.z_range (e_len T.z_len (a_cons (e_ix (e_var 0) e_int) a_nil))).e))))
theorem has__law_lists (T : Tx K mg) : ∀ n, Has P w K mg base "_law_lists" (0 + n) ["thing"] (spF K 1 (m__law_lists n))
  | 0 => has_none_pure T.d__law_lists (by rfl)
  | n + 1 => have ih := has__law_lists T n
    has_pure T.d__law_lists sc__law_lists (by rfl) (by decide) fun f cdv A outer s H E hr =>
  (ss_one (s_ret (e_if (t_val (e_isi2 T.z_isinstance T.z_list (by decide +kernel) kit_list T.z_tuple (by decide +kernel) kit_tuple (e_var 0))) (n_lc [("inner", 1)] sc__law_lists.nd (i_any (e_var 0)) (blkOk_by (N := ["thing", "inner"]) (sc := defScope s__law_lists) (by decide +kernel)) (fun _ _ _ _ _ => (g_name 1 sc__law_lists.nd)) (fun _ _ _ _ _ => ts_nil) (fun _ _ _ _ _ => (e_callH ih hr (a_cons (e_var 1) a_nil)))).e (e_var 0))))
theorem has__law_handed (T : Tx K mg) : Has P w K mg base "_law_handed" 10 ["spring", "thing"] (spIO K 1 m__law_handed) := has_io T.d__law_handed sc__law_handed (by rfl) (by decide) fun f cdv A outer s H E hr =>
  (ss_one (s_ret (e_if (t_gt (e_callHIO 0 (has__law_draw T) (hr.mono (by decide)) (a_cons e_int a_nil)) e_int) (e_var 1) (e_callH (has__law_lists T 8) (hr.mono (by decide)) (a_cons (e_var 1) a_nil)))))
theorem has_is_row (T : Tx K mg) : Has P w K mg base "is_row" 1 ["thing", "size"] (spF K 2 m_is_row) := has_pure T.d_is_row sc_is_row (by rfl) (by decide) fun f cdv A outer s H E hr =>
  (ss_one (s_ret (e_and (e_isi2 T.z_isinstance T.z_list (by decide +kernel) kit_list T.z_tuple (by decide +kernel) kit_tuple (e_var 0)) (e_one (e_eq hr.units (e_len T.z_len (a_cons (e_var 0) a_nil)) (e_var 1))))))
theorem has_place_of (T : Tx K mg) : Has P w K mg base "place_of" 1 ["web", "end"] (spF K 2 m_place_of) := has_pure T.d_place_of sc_place_of (by rfl) (by decide) fun f cdv A outer s H E hr =>
  (ss_one (s_ret (e_ix (e_ix (e_ix (e_var 0) e_int) (e_ix (e_var 1) e_int)) (e_ix (e_var 1) e_int))))
theorem has_company_of (T : Tx K mg) : Has P w K mg base "company_of" 1 ["web", "end"] (spF K 2 m_company_of) := has_pure T.d_company_of sc_company_of (by rfl) (by decide) fun f cdv A outer s H E hr =>
  (ss_one (s_ret (e_ix (e_ix (e_ix (e_var 0) e_int) (e_ix (e_var 1) e_int)) e_int)))
theorem has_far_end (T : Tx K mg) : Has P w K mg base "far_end" 1 ["end"] (spF K 1 m_far_end) := has_pure T.d_far_end sc_far_end (by rfl) (by decide) fun f cdv A outer s H E hr =>
  (ss_one (s_ret (e_tup (a_cons (e_ix (e_var 0) e_int) (a_cons (e_sub e_int (e_ix (e_var 0) e_int)) a_nil)))))
theorem has_can_go_on (T : Tx K mg) : Has P w K mg base "can_go_on" 2 ["web", "end", "later"] (spF K 3 m_can_go_on) := has_pure T.d_can_go_on sc_can_go_on (by rfl) (by decide) fun f cdv A outer s H E hr =>
  (ss_cons (s_if (t_ne hr.units (e_callH (has_place_of T) (hr.mono (by decide)) (a_cons (e_var 0) (a_cons (e_callH (has_far_end T) (hr.mono (by decide)) (a_cons (e_var 1) a_nil)) a_nil))) (e_callH (has_place_of T) (hr.mono (by decide)) (a_cons (e_var 0) (a_cons (e_var 2) a_nil)))) (ss_one (s_ret e_bl)) ss_nil) (ss_one (s_ret (e_ne hr.units (e_callH (has_company_of T) (hr.mono (by decide)) (a_cons (e_var 0) (a_cons (e_var 1) a_nil))) (e_callH (has_company_of T) (hr.mono (by decide)) (a_cons (e_var 0) (a_cons (e_var 2) a_nil)))))))
theorem has_is_whole (T : Tx K mg) : Has P w K mg base "is_whole" 1 ["thing"] (spF K 1 m_is_whole) := has_pure T.d_is_whole sc_is_whole (by rfl) (by decide) fun f cdv A outer s H E hr =>
  (ss_one (s_ret (e_and (e_isi T.z_isinstance T.z_int (by decide +kernel) kit_int (e_var 0)) (e_and (e_not (e_isi T.z_isinstance T.z_bool (by decide +kernel) kit_bool (e_var 0))) (e_one (e_ge (e_var 0) e_int))))))
theorem has_is_end (T : Tx K mg) : Has P w K mg base "is_end" 2 ["web", "thing"] (spF K 2 m_is_end) := has_pure T.d_is_end sc_is_end (by rfl) (by decide) fun f cdv A outer s H E hr =>
  (ss_cons (s_if (t_w (w_or (t_not (t_val (e_callH (has_is_row T) (hr.mono (by decide)) (a_cons (e_var 1) (a_cons e_int a_nil))))) (w_or (t_not (t_val (e_callH (has_is_whole T) (hr.mono (by decide)) (a_cons (e_ix (e_var 1) e_int) a_nil)))) (w_or1 (t_not (t_val (e_callH (has_is_whole T) (hr.mono (by decide)) (a_cons (e_ix (e_var 1) e_int) a_nil)))))))) (ss_one (s_ret e_bl)) ss_nil) (ss_one (s_ret (e_and (e_lt (e_ix (e_var 1) e_int) (e_len T.z_len (a_cons (e_ix (e_var 0) e_int) a_nil))) (e_one (e_lt (e_ix (e_var 1) e_int) (e_gintE T.c_SIDES)))))))
theorem has_ride_is (T : Tx K mg) : Has P w K mg base "ride_is" 3 ["web", "ride"] (spF K 2 m_ride_is) := has_pure T.d_ride_is sc_ride_is (by rfl) (by decide) fun f cdv A outer s H E hr =>
  (ss_cons (s_if (t_w (w_or (t_not (t_val (e_isi2 T.z_isinstance T.z_list (by decide +kernel) kit_list T.z_tuple (by decide +kernel) kit_tuple (e_var 1)))) (w_or (t_eq hr.units (e_len T.z_len (a_cons (e_var 1) a_nil)) e_int) (w_or1 (t_not (t_val (e_all T.z_all (a_cons (n_lc [("end", 2)] sc_ride_is.nd (i_any (e_var 1)) (blkOk_by (N := ["web", "ride", "end", "later"]) (sc := defScope s_ride_is) (by decide +kernel)) (fun _ _ _ _ _ => (g_name 2 sc_ride_is.nd)) (fun _ _ _ _ _ => ts_nil) (fun _ _ _ _ _ => (e_callH (has_is_end T) (hr.mono (by decide)) (a_cons (e_var 0) (a_cons (e_var 2) a_nil))))).e a_nil)))))))) (ss_one (s_ret e_bl)) ss_nil) (ss_cons (s_if (t_ne hr.units (e_lenSet T.z_len T.z_set (n_lc [("end", 2)] sc_ride_is.nd (i_any (e_var 1)) (blkOk_by (N := ["web", "ride", "end", "later"]) (sc := defScope s_ride_is) (by decide +kernel)) (fun _ _ _ _ _ => (g_name 2 sc_ride_is.nd)) (fun _ _ _ _ _ => ts_nil) (fun _ _ _ _ _ => (e_ix (e_var 2) e_int))).e) (e_len T.z_len (a_cons (e_var 1) a_nil))) (ss_one (s_ret e_bl)) ss_nil) (ss_one (s_ret (e_all T.z_all (a_cons (n_lc [("end", 2), ("later", 3)] sc_ride_is.nd (i_zip T.z_zip (a_cons (e_var 1) (a_cons (e_sl (e_var 1) (o_some e_int) o_none) a_nil))) (blkOk_by (N := ["web", "ride", "end", "later"]) (sc := defScope s_ride_is) (by decide +kernel)) (fun _ _ _ _ _ => (g_tup (gs_cons (g_name 2 sc_ride_is.nd) (gs_cons (g_name 3 sc_ride_is.nd) gs_nil)))) (fun _ _ _ _ _ => ts_nil) (fun _ _ _ _ _ => (e_callH (has_can_go_on T) (hr.mono (by decide)) (a_cons (e_var 0) (a_cons (e_var 2) (a_cons (e_var 3) a_nil)))))).e a_nil))))))
theorem has_round_is (T : Tx K mg) : Has P w K mg base "round_is" 4 ["web", "ride"] (spF K 2 m_round_is) := has_pure T.d_round_is sc_round_is (by rfl) (by decide) fun f cdv A outer s H E hr =>
  (ss_one (s_ret (e_and (e_callH (has_ride_is T) (hr.mono (by decide)) (a_cons (e_var 0) (a_cons (e_var 1) a_nil))) (e_one (e_callH (has_can_go_on T) (hr.mono (by decide)) (a_cons (e_var 0) (a_cons (e_ix (e_var 1) (e_neg e_int)) (a_cons (e_ix (e_var 1) e_int) a_nil))))))))
theorem has_is_piece (T : Tx K mg) : Has P w K mg base "is_piece" 5 ["web", "thing"] (spF K 2 m_is_piece) := has_pure T.d_is_piece sc_is_piece (by rfl) (by decide) fun f cdv A outer s H E hr =>
  (ss_cons (s_if (t_w (w_or (t_not (t_val (e_callH (has_is_row T) (hr.mono (by decide)) (a_cons (e_var 1) (a_cons e_int a_nil))))) (w_or1 (t_not (t_val (e_isi T.z_isinstance T.z_str (by decide +kernel) kit_str (e_ix (e_var 1) e_int))))))) (ss_one (s_ret e_bl)) ss_nil) (ss_one (s_ret (e_or (e_and (e_eq hr.units (e_ix (e_var 1) e_int) (e_gstrE T.c_RIDE)) (e_one (e_callH (has_ride_is T) (hr.mono (by decide)) (a_cons (e_var 0) (a_cons (e_ix (e_var 1) e_int) a_nil))))) (e_one (e_and (e_eq hr.units (e_ix (e_var 1) e_int) (e_gstrE T.c_ROUND)) (e_one (e_callH (has_round_is T) (hr.mono (by decide)) (a_cons (e_var 0) (a_cons (e_ix (e_var 1) e_int) a_nil))))))))))
theorem has_riding_is (T : Tx K mg) : Has P w K mg base "riding_is" 6 ["web", "riding"] (spF K 2 m_riding_is) := has_pure T.d_riding_is sc_riding_is (by rfl) (by decide) fun f cdv A outer s H E hr =>
  (ss_cons (s_if (t_w (w_or (t_not (t_val (e_isi2 T.z_isinstance T.z_list (by decide +kernel) kit_list T.z_tuple (by decide +kernel) kit_tuple (e_var 1)))) (w_or1 (t_not (t_val (e_all T.z_all (a_cons (n_lc [("piece", 2)] sc_riding_is.nd (i_any (e_var 1)) (blkOk_by (N := ["web", "riding", "piece", "word", "ends", "end"]) (sc := defScope s_riding_is) (by decide +kernel)) (fun _ _ _ _ _ => (g_name 2 sc_riding_is.nd)) (fun _ _ _ _ _ => ts_nil) (fun _ _ _ _ _ => (e_callH (has_is_piece T) (hr.mono (by decide)) (a_cons (e_var 0) (a_cons (e_var 2) a_nil))))).e a_nil))))))) (ss_one (s_ret e_bl)) ss_nil) (ss_one (s_ret (e_eq hr.units (e_sorted hr T.z_sorted (a_cons (n_lc2 [("word", 3), ("ends", 4), ("end", 5)] [5] sc_riding_is.nd (i_any (e_var 1)) (blkOk_by (N := ["web", "riding", "piece", "word", "ends", "end"]) (sc := defScope s_riding_is) (by decide +kernel)) (fun _ _ _ _ _ => (g_seq (gs_cons (g_name 3 sc_riding_is.nd) (gs_cons (g_name 4 sc_riding_is.nd) gs_nil)))) (fun _ _ _ _ _ => ts_nil) (fun _ _ _ _ _ => (i_any (e_var 4))) (fun _ _ _ _ _ => (g_name 5 sc_riding_is.nd)) (fun _ _ _ _ _ => ts_nil) (fun _ _ _ _ _ => (e_ix (e_var 5) e_int))).e a_nil)) (n_listRng1 T.z_list T.z_range (e_len T.z_len (a_cons (e_ix (e_var 0) e_int) a_nil))).e))))
theorem law_body (T : Tx K mg) : BodyG P w K mg base ["script", "spring", "turn", "web", "pieces", "again", "other", "due", "handed", "stays", "found"] "law" s_law 10 AnyB g_law := fun f cdv A outer s H E hr hgd =>
  (ss_cons (s_own 1 sc_law.nd (n_callScr 0 (has__law_spring T) (hr.mono (by decide)))) (ss_cons (s_for0 PassesOwn.never (i0_range1 T.z_range (a_cons (e_add e_int (e_min2 T.z_min (a_cons (e_scrLen 0 T.z_len) (a_cons e_int a_nil)))) a_nil)) (g_name 2 sc_law.nd) (ss_cons (s_set 3 sc_law.nd (e_callHIO 1 (has__law_web T) (hr.mono (by decide)) (a_cons e_int a_nil))) (ss_cons (s_set 4 sc_law.nd (e_callH (has__law_pieces T) (hr.mono (by decide)) (a_cons (e_var 3) (a_cons (e_callHIO 1 (has__law_partners T) (hr.mono (by decide)) (a_cons (e_var 3) (a_cons (e_add e_int (e_callHIO 1 (has__law_draw T) (hr.mono (by decide)) (a_cons e_int a_nil))) a_nil))) a_nil)))) (ss_cons (s_if (t_w (w_or (t_isNot (e_callH (has_riding_is T) (hr.mono (by decide)) (a_cons (e_var 3) (a_cons (e_callHIO 1 (has__law_handed T) (hr.mono (by decide)) (a_cons (e_var 4) a_nil)) a_nil))) e_bl) (w_or1 (t_isNot (e_callH (has_riding_is T) (hr.mono (by decide)) (a_cons (e_var 3) (a_cons (e_tuple T.z_tuple (a_cons (n_revL (e_var 4)).e a_nil)) a_nil))) e_bl)))) (ss_one (s_ret e_bl)) ss_nil) (ss_one (s_for0 PassesOwn.never (i0_range1 T.z_range (a_cons (e_mul e_int (e_intOf T.z_int (a_cons (e_ne hr.units (e_var 4) (e_lst a_nil)) a_nil))) a_nil)) (g_name 5 sc_law.nd) (ss_cons (s_set 6 sc_law.nd (e_callHIO 1 (has__law_otherwise T) (hr.mono (by decide)) (a_cons (e_var 3) (a_cons (e_var 4) a_nil)))) (ss_cons (s_set 7 sc_law.nd (e_callH (has__law_due T) (hr.mono (by decide)) (a_cons (e_var 3) (a_cons (e_var 6) a_nil)))) (ss_cons (s_set 8 sc_law.nd (e_callHIO 1 (has__law_handed T) (hr.mono (by decide)) (a_cons (e_var 6) a_nil))) (ss_cons (s_set 9 sc_law.nd (e_repr hr hgd T.z_repr (a_cons (e_var 8) a_nil))) (ss_cons (s_set 10 sc_law.nd (e_callH (has_riding_is T) (hr.mono (by decide)) (a_cons (e_callHIO 1 (has__law_handed T) (hr.mono (by decide)) (a_cons (e_var 3) a_nil)) (a_cons (e_var 8) a_nil)))) (ss_one (s_if (t_w (w_or (t_not (t_val (e_isi T.z_isinstance T.z_bool (by decide +kernel) kit_bool (e_var 10)))) (w_or (t_ne hr.units (e_var 10) (e_var 7)) (w_or1 (t_ne hr.units (e_repr hr hgd T.z_repr (a_cons (e_var 8) a_nil)) (e_var 9)))))) (ss_one (s_ret e_bl)) ss_nil))))))))))))) (ss_one (s_ret (e_and (e_is (e_callH (has_riding_is T) (hr.mono (by decide)) (a_cons (e_tup (a_cons e_int (a_cons (e_tup a_nil) a_nil))) (a_cons (e_lst a_nil) a_nil))) e_bl) (e_one (e_is (e_callH (has_riding_is T) (hr.mono (by decide)) (a_cons (e_tup (a_cons e_int (a_cons (e_tup (a_cons (e_tup (a_cons e_int (a_cons e_int (a_cons e_str a_nil)))) a_nil)) a_nil))) (a_cons (e_lst a_nil) a_nil))) e_bl)))))))
end
end Lw.k23

set_option maxHeartbeats 4000000
namespace Lw.k23
open PySem Fu Lw
local macro_rules | `(tactic| walk_at "e1") => `(tactic| first
  | with_reducible refine eo_seq ?_ | (with_reducible refine then_nx' ?_; refine ⟨?_, ?_, ?_⟩; rotate_left; · (try dsimp only [List.set, List.length_cons, List.length_nil, List.cons_append, List.nil_append, Nat.zero_add, Nat.reduceAdd]); exact rfl) | with_reducible refine then_rt ?_ | with_reducible refine eo_if ?_ | with_reducible refine eo_ret ?_ | with_reducible refine eo_set ?_ | with_reducible refine eo_asg ?_ | with_reducible refine eo_drop ?_ | with_reducible refine eo_nx ?_ | with_reducible refine eo_par ?_ | with_reducible refine eo_own ?_ | with_reducible refine eo_retN ?_ | with_reducible refine eo_for ?_ | with_reducible refine eo_retO ?_
  | with_reducible refine ev_c ?_ | (with_reducible refine ev_var ?_; refine ⟨_, rfl, ?_⟩) | with_reducible refine ev_bin ?_ | with_reducible refine ev_un ?_ | with_reducible refine ev_nil ?_ | with_reducible refine ev_cons ?_
  | with_reducible refine ev_tup ?_ | with_reducible refine ev_lst ?_ | with_reducible refine ev_call ?_ | with_reducible refine ev_callF ?_ | with_reducible refine ev_isi ?_ | with_reducible refine ev_isi2 ?_ | with_reducible refine ev_andV ?_ | with_reducible refine ev_orV ?_ | with_reducible refine ev_notV ?_
  | with_reducible refine ev_B ?_ | with_reducible refine ev_and ?_ | with_reducible refine ev_or ?_ | with_reducible refine ev_not ?_ | with_reducible refine ev_yes ?_ | with_reducible refine ev_if ?_ | with_reducible refine ev_no ?_ | with_reducible refine ev_so ?_ | with_reducible refine ev_sl ?_ | with_reducible refine ev_items ?_
  | (with_reducible refine ev_ixO ?_; refine ⟨_, _, rfl, rfl, ?_⟩) | (with_reducible refine ev_varO ?_; refine ⟨_, _, rfl, rfl, ?_⟩) | (with_reducible refine ev_lenO ?_; refine ⟨_, _, rfl, rfl, ?_⟩) | (with_reducible refine ev_scrSl ?_; refine ⟨_, rfl, ?_⟩) | (with_reducible refine ev_scrLen ?_; refine ⟨_, rfl, ?_⟩) | (with_reducible refine ev_callScr ?_; refine ⟨_, rfl, ?_⟩) | (with_reducible refine ev_OL ?_; refine ⟨_, _, rfl, rfl, ?_⟩) | with_reducible refine ev_OR ?_ | with_reducible refine ev_rep ?_ | with_reducible refine ev_listRng1 ?_ | with_reducible refine eo_setO ?_
  | with_reducible refine es_name ?_ | with_reducible refine es_tup2 ?_ | with_reducible refine es_tup3 ?_
  | with_reducible refine ed_addI ?_ | with_reducible refine ed_subI ?_ | with_reducible refine ed_cmp ?_ | with_reducible refine ed_eqI ?_ | with_reducible refine ed_neI ?_ | with_reducible refine ed_slT ?_ | with_reducible refine ed_slL ?_ | with_reducible refine ed_lenT ?_ | with_reducible refine ed_lenL ?_ | with_reducible refine ed_lenS ?_ | with_reducible refine ed_inS ?_ | with_reducible refine ed_itT ?_ | with_reducible refine ed_itL ?_ | with_reducible refine ed_tupL ?_ | with_reducible refine ed_tupT ?_ | with_reducible refine ed_listL ?_ | with_reducible refine ed_listT ?_ | with_reducible refine ed_neg ?_ | with_reducible refine ed_max ?_ | with_reducible refine ed_min ?_ | with_reducible refine ed_intB ?_
  | with_reducible refine ev_rng1 ?_ | with_reducible refine ev_rng2 ?_)
local macro_rules | `(tactic| walk_at "sd") => `(tactic| first | rfl | assumption | (simp only [decide_eq_true_eq, decide_eq_false_iff_not, Bool.not_eq_true', Bool.not_eq_false', Bool.and_eq_true, Bool.or_eq_true, List.length_map, List.length_cons, List.length_nil, List.length_append, List.length_range] at *; omega))
local macro_rules | `(tactic| walk_at "e2") => `(tactic| first
  | walk_at "e1" | with_reducible refine ⟨_, rfl, ?_⟩ | with_reducible refine ⟨_, _, rfl, ?_⟩
  | with_reducible refine And.intro (Eq.refl (List.length _)) ?_ | with_reducible refine And.intro (Nat.le_of_ble_eq_true (n := List.length _) rfl) ?_
  | with_reducible refine And.intro (Eq.refl (_ : Sx)) (?_ : Ed _ _)
  | ((with_reducible refine And.intro ?_ (And.intro ?_ (?_ : Ev _ _))); (· rfl); (· rfl))
  | ((with_reducible refine ed_ixTx ?_); refine ⟨_, by decide, rfl, ?_⟩) | ((with_reducible refine ed_ixLx ?_); refine ⟨_, by decide, rfl, ?_⟩) | ((with_reducible refine es_star ?_))
  | with_reducible refine an_tt ?_ | with_reducible refine an_ft ?_ | with_reducible refine an_tf ?_ | with_reducible refine an_ff ?_ | with_reducible refine an_ntt ?_ | with_reducible refine an_nft ?_ | with_reducible refine an_ntf ?_ | with_reducible refine an_nff ?_
  | ((with_reducible refine ed_dneSelf ?_)) | ((with_reducible refine ed_deqSelf ?_))
  | ((with_reducible refine ed_ixT ?_ ?_ ?_); (· decide); (· rfl)) | ((with_reducible refine ed_ixL ?_ ?_ ?_); (· decide); (· rfl)) | ((with_reducible refine ed_at ?_ ?_ ?_); (· decide); (· rfl))
  | ((with_reducible refine ed_modI ?_ ?_); (· first | decide | omega))
  | with_reducible exact gives_nx | ((with_reducible refine gives_rt ?_); (· rfl)) | ((with_reducible refine And.intro ?_ ?_); (· exact rfl); (· with_reducible exact Eq.refl (_ : Sx))))
local macro_rules | `(tactic| walk_at "e") => `(tactic| repeat walk_at "e2")
/-- begin a def's spec -/
local macro_rules | `(tactic| walk_at "i") => `(tactic| simp only [initS, List.map_cons, List.map_nil, List.length_cons, List.length_nil, Nat.reduceAdd, Nat.reduceSub, List.replicate, List.cons_append, List.nil_append])
/-- a known truth decides -/
local macro_rules | `(tactic| walk_at "t") => `(tactic| first | ((with_reducible refine split_t ?_ ?_); (· walk_at "sd")) | ((with_reducible refine split_t' ?_ ?_); (· walk_at "sd")))
local macro_rules | `(tactic| walk_at "f") => `(tactic| first | ((with_reducible refine split_f ?_ ?_); (· walk_at "sd")) | ((with_reducible refine split_f' ?_ ?_); (· walk_at "sd")))
/-- all that is seen in a look -/
local macro_rules | `(tactic| walk_at "v") => `(tactic| (rw [sealAll_mk (by (simp only [List.set_cons_zero, List.set_cons_succ, List.map_cons, List.map_nil, sealS_none, sealS_dat, sealS_scr, sealS_own, List.getElem?_cons_zero, List.getElem?_cons_succ, sealC_lst]; rfl)) (by (simp only [List.set_cons_zero, List.set_cons_succ, List.map_cons, List.map_nil]; rfl))]))
open Rd Lw.Sp
open L2 (Key)
theorem pc_len {x : Pc} {ps : List Pc} (h : x ∈ ps) : x.2.length ≤ (lnsOf ps).length := by
  induction ps with
  | nil => cases h
  | cons y ps ih =>
    unfold lnsOf at *
    rw [List.flatMap_cons, List.length_append, List.length_map]
    rcases List.mem_cons.mp h with rfl | h
    · omega
    · have := ih h; omega
theorem pcB_ride {ls : List Ln} {x : Pc} (h : pcB ls x = true) : rideB ls x.2 = true := by
  unfold pcB at h
  split at h
  · exact (roundB_iff.mp h).1
  · exact h
theorem lns_rev (ps : List Pc) : (lnsOf ps.reverse).Perm (lnsOf ps) := (List.reverse_perm ps).flatMap_right _
theorem law_true : ∀ ns : List Int, ns.length ≤ 63 → mScr 11 g_law ns = some (.bool true) := by
  intro ns hns
  refine mScr_of ?_; walk_at "i"; unfold g_law
  walk_at "e"
  obtain ⟨cs, e, hR⟩ := x_spring hns
  refine Ed.of e ?_
  walk_at "e"
  refine ⟨by omega, by omega, ?_⟩
  refine eo_loop (fun i S => ∃ x2 x3 x4 x5 x6 x7 x8 x9 x10 cs, S = ⟨[some (.scr ns), some (.own 0), x2, x3, x4, x5, x6, x7, x8, x9, x10], [some (.lst cs)]⟩ ∧ Reel (4294967296 - 10000 * i) cs) ⟨_, _, _, _, _, _, _, _, _, _, rfl, hR⟩ ?_ ?_
  · rintro i z S hz ⟨x2, x3, x4, x5, x6, x7, x8, x9, x10, cs, rfl, hR⟩
    obtain ⟨hi, rfl⟩ := rng_at hz
    have hi : i < 6 := by omega
    walk_at "e"
    refine ev_IO ⟨_, rfl, ?_⟩
    walk_at "e"
    obtain ⟨d, cs, e, p, ls, rfl, hw, p0, p1, hl, hR⟩ := x__law_web (most := 40) (by decide) hR (by omega)
    refine ⟨_, _, e, ?_⟩
    have hW := web_wb p ls
    obtain ⟨L, sL, _⟩ := id hW
    have sh := shw_web hW hw (by omega)
    walk_at "e"
    refine ev_IO ⟨_, rfl, ?_⟩
    walk_at "e"
    refine ev_drawR ⟨_, rfl, ?_⟩
    walk_at "e"
    refine ⟨_, _, _, rfl, rfl, hR, by omega, by decide, by decide, fun v cs va vb hR => ?_⟩
    walk_at "e"
    have hbud : 6 * ls.length * p.toNat ≤ 5760 := Nat.le_trans (Nat.mul_le_mul (show 6 * ls.length ≤ 240 by omega) (show p.toNat ≤ 24 by omega)) (by decide)
    obtain ⟨cs, rows, e, hrows, hR⟩ := x__law_partners (v := 2 + v) hw (by omega) (by omega) (by omega) (by omega) hR (by omega)
    refine ⟨_, _, e, ?_⟩
    have hR : Reel (4294967296 - 10000 * i - 7000) cs := hR.mono (by omega)
    obtain ⟨ps, e2, hall, hperm⟩ := x__law_pieces hW hw (by omega) hrows
    walk_at "e"
    refine Ed.of e2 ?_
    clear e e2 hrows rows hbud
    have hpn : (lnsOf ps).length = ls.length := by have := hperm.length_eq; simpa using this
    have hpl : ps.length ≤ ls.length := by rw [← hpn]; exact pcs_len hall
    have hel : ∀ x ∈ ps, x.2.length ≤ ls.length := fun x hx => by rw [← hpn]; exact pc_len hx
    have hpok : ∀ x ∈ ps, PcOk ls.length 40 x := fun x hx => by
      obtain ⟨h1, h2, _⟩ := rideB_ends (pcB_ride (hall x hx))
      exact ⟨h1, h2, by have := hel x hx; omega⟩
    have hle40 : ∀ x ∈ ps, x.2.length ≤ 4000 := fun x hx => by have := hel x hx; omega
    have hsm : ∀ e : Int × Int, EndOk ls.length e → e.1.natAbs < 10 ^ 12 ∧ e.2.natAbs < 10 ^ 12 := fun e ⟨h1, h2, h3, h4⟩ => ⟨by omega, by omega⟩
    have sT := shw_pcs (M := 40) (isPcs_of (sq_l (ps.map pcD))) (by decide) fun x hx => ⟨(hpok x hx).2.2, fun e he => hsm e ((hpok x hx).2.1 e he)⟩
    walk_at "e"
    refine ev_IO ⟨_, rfl, ?_⟩
    walk_at "e"
    obtain ⟨n, cs, e2, hn, hR⟩ := x__law_handed hR (by omega) (show (PyData.list (ps.map pcD)).depth < 8 by have := sT.dep; omega)
    refine ⟨_, _, e2, ?_⟩
    have hn : IsPcs n ps := by rcases hn with rfl | rfl; exact isPcs_of (sq_l _); exact lists_pcs ps
    have hval : (ps.all (pcB ls) && decide ((lnsOf ps).Perm ((List.range ls.length).map fun i : Nat => (i : Int)))) = true := by rw [List.all_eq_true.mpr hall, decide_eq_true hperm]; rfl
    have hgood := x_riding_of hW hw (by omega) hn (by omega) hle40
    rw [hval] at hgood
    walk_at "e"
    refine Ed.of hgood ?_
    walk_at "e"
    refine ⟨_, rfl, false, rfl, ⟨fun _ => ?_, (fun z => nomatch z)⟩⟩
    walk_at "e"
    refine ed_revL ?_
    walk_at "e"
    have hrevp : IsPcs (.tuple (ps.map pcD).reverse) ps.reverse := isPcs_of (by rw [List.map_reverse]; exact sq_t _)
    have hgood2 := x_riding_of hW hw (by omega) hrevp (by rw [List.length_reverse]; omega) (fun x hx => hle40 x (List.mem_reverse.mp hx))
    have hval2 : (ps.reverse.all (pcB ls) && decide ((lnsOf ps.reverse).Perm ((List.range ls.length).map fun i : Nat => (i : Int)))) = true := by
      rw [List.all_eq_true.mpr fun x hx => hall x (List.mem_reverse.mp hx), decide_eq_true ((lns_rev ps).trans hperm)]; rfl
    rw [hval2] at hgood2
    refine Ed.of hgood2 ?_
    walk_at "e"
    refine ⟨_, rfl, false, rfl, ?_⟩
    refine split_f rfl ?_
    walk_at "e"
    refine ed_ne_nil (n := 3) (fun d hd => ?_) ?_
    · obtain ⟨x, hx, rfl⟩ := List.mem_map.mp hd
      have := shw_pc (M := 40) (isPc_pcD x) (hpok x hx).2.2 (by decide) fun e he => hsm e ((hpok x hx).2.1 e he)
      exact ⟨this.lay, this.dep⟩
    walk_at "e"
    refine ed_mulI (Sp.mulW ⟨by decide, by decide⟩ ⟨by split <;> omega, by split <;> omega⟩) ?_
    walk_at "e"
    have hk6 : ∀ b : Bool, (6 * if b = true then (1 : Int) else 0) = if b = true then 6 else 0 := fun b => by cases b <;> rfl
    rw [hk6]
    refine ⟨by split <;> omega, by split <;> omega, ?_⟩
    refine eo_loop (fun j S => ∃ x5 x6 x7 x8 x9 x10 cs, S = ⟨[some (.scr ns), some (.own 0), some (.dat (.int (0 + (i : Int)))), some (.dat (wb p ls)), some (.dat (.list (ps.map pcD))), x5, x6, x7, x8, x9, x10], [some (.lst cs)]⟩ ∧ Reel (4294967296 - 10000 * i - 7100 - 100 * j) cs) ⟨_, _, _, _, _, _, _, rfl, hR.mono (by omega)⟩ ?_ ?_
    · rintro j z S hz ⟨x5, x6, x7, x8, x9, x10, cs, rfl, hR⟩
      obtain ⟨hj, rfl⟩ := rng_at hz
      have hps : ps ≠ [] := by
        rintro rfl
        simp at hj
      have hj : j < 6 := by
        split at hj
        · exact hj
        · simp at hj
      have hln : ls ≠ [] := by
        rintro rfl
        rw [List.length_nil] at hpl
        exact hps (List.length_eq_zero_iff.mp (by omega))
      walk_at "e"
      refine ev_IO ⟨_, rfl, ?_⟩
      walk_at "e"
      obtain ⟨d, cs, e, qs, rfl, hql, hqm, hR⟩ := x__law_otherwise (m := 40) hw (by omega) hln hps (by omega) (by decide) hpok hR (by omega)
      refine ⟨_, _, e, ?_⟩
      have hqz : ∀ x ∈ qs, x.2.length ≤ 81 ∧ ∀ e ∈ x.2, e.1.natAbs < 10 ^ 12 ∧ e.2.natAbs < 10 ^ 12 := fun x hx => ⟨(hqm x hx).1, fun e he => hsm e ((hqm x hx).2 e he)⟩
      have hdue := x__law_due (ps := qs) hW hw (by omega) (by omega) fun x hx => by have := (hqz x hx).1; omega
      walk_at "e"
      refine Ed.of hdue ?_
      have sQ := shw_pcs (M := 81) (isPcs_of (sq_l (qs.map pcD))) (by decide) hqz
      walk_at "e"
      refine ev_IO ⟨_, rfl, ?_⟩
      walk_at "e"
      obtain ⟨n, cs, e2, hn, hR⟩ := x__law_handed hR (by omega) (show (PyData.list (qs.map pcD)).depth < 8 by have := sQ.dep; omega)
      refine ⟨_, _, e2, ?_⟩
      have hn : IsPcs n qs := by rcases hn with rfl | rfl; exact isPcs_of (sq_l _); exact lists_pcs qs
      have sN := shw_pcs (M := 81) hn (by decide) hqz
      obtain ⟨zs, sz, _, _⟩ := id hn
      have hwt : qs.length * (2 * (81 * 83 + 1) + 1) ≤ 1048576 := by omega
      walk_at "e"
      refine ed_repr sz sN ?_ (by decide) hwt
      walk_at "e"
      refine ev_IO ⟨_, rfl, ?_⟩
      walk_at "e"
      obtain ⟨v, cs, e3, hv, hR⟩ := x__law_handed hR (by omega) (show (wb p ls).depth < 8 by have := sh.dep; omega)
      refine ⟨_, _, e3, ?_⟩
      have hv : Web v p ls := by rcases hv with rfl | rfl; exact hW; exact web_lists hW
      walk_at "e"
      have hrq := x_riding_of hv hw (by omega) hn (by omega) (fun x hx => by have := (hqz x hx).1; omega)
      refine Ed.of hrq ?_
      rw [show (qs.all (pcB ls) && decide ((lnsOf qs).Perm ((List.range ls.length).map fun i : Nat => (i : Int)))) = dueB ls qs from rfl]
      walk_at "e"
      refine ⟨fun _ => ?_, fun h => nomatch h⟩
      walk_at "e"
      refine Ed.of (show dNe (.bool (dueB ls qs)) (.bool (dueB ls qs)) = some (.bool false) from dNe_self rfl) ?_
      walk_at "e"
      refine ed_repr sz sN ?_ (by decide) hwt
      walk_at "e"
      exact ⟨_, _, _, _, _, _, cs, rfl, hR.mono (by omega)⟩
    · rintro S ⟨x5, x6, x7, x8, x9, x10, cs, rfl, hR⟩
      have : (rng 0 (if (!decide (ps.map pcD = [])) = true then (6 : Int) else 0).toNat).length ≤ 6 := by rw [rng_len]; split <;> decide
      exact ⟨_, rfl, _, _, _, _, _, _, _, _, _, cs, rfl, hR.mono (by omega)⟩
  · rintro S ⟨x2, x3, x4, x5, x6, x7, x8, x9, x10, cs, rfl, hR⟩
    walk_at "e"
    have h1 := x_riding_of (w := .tuple [.int 3, .tuple []]) (ps := []) (web_wb 3 []) ⟨by decide, (fun _ h => nomatch h), by decide⟩ (by decide) (isPcs_of (sq_l [])) (by decide) (fun _ h => nomatch h)
    rw [show (([] : List Pc).all (pcB []) && decide ((lnsOf []).Perm ((List.range ([] : List Ln).length).map fun i : Nat => (i : Int)))) = true by simp [lnsOf]] at h1
    have h2 := x_riding_of (w := .tuple [.int 1, .tuple [.tuple [.int 0, .int 0, ch 97]]]) (ps := []) (web_wb 1 [(0, 0, 97)]) ⟨by decide, (fun l hl => by rw [List.mem_singleton.mp hl]; exact ⟨by decide, by decide, by decide, by decide, by decide⟩), by decide⟩ (by decide) (isPcs_of (sq_l [])) (by decide) (fun _ h => nomatch h)
    rw [show (([] : List Pc).all (pcB [(0, 0, 97)]) && decide ((lnsOf []).Perm ((List.range ([(0, 0, 97)] : List Ln).length).map fun i : Nat => (i : Int)))) = false by simp [lnsOf]] at h2
    refine Ed.of h1 ?_
    walk_at "e"
    refine ⟨_, rfl, true, rfl, ⟨fun _ => ?_, (fun z => nomatch z)⟩⟩
    walk_at "e"
    refine Ed.of h2 ?_
    walk_at "e"
    exact ⟨_, rfl, _, rfl, _, rfl⟩
end Lw.k23

set_option maxHeartbeats 16000000
namespace Lw.k23
open PySem PySem.Spec PyProof.Rows L2 RZ Fu Lw
theorem all_mk {l : PySem.W.OpenLaw} {w : World} {K : PySem.W.Frag} {h : Heap} {mg : Str → Option Value} {fa : Addr} (X : K.In h) (G : h.Ns mainGlobals mg) (hfa : mg "law" = some (.ref fa))
    {f__law_spring : Addr} {od__law_spring an__law_spring : Option Addr} {sl__law_spring : Array (Option Value)} {oc__law_spring kV__law_spring dc__law_spring pm__law_spring cd__law_spring ct__law_spring : Value}
    (a__law_spring : PySem.W.nsIn K mainGlobals "_law_spring" = some (some (.ref f__law_spring)))
    (l__law_spring : K.lookup f__law_spring = some ⟨oc__law_spring, od__law_spring, .func (PySem.W.fnOf "_law_spring" "_law_spring" (defArgs s__law_spring) (defBody s__law_spring) (defScope s__law_spring) .none kV__law_spring dc__law_spring pm__law_spring an__law_spring cd__law_spring ct__law_spring), sl__law_spring⟩)
    (c__law_spring : PySem.W.codeIn K cd__law_spring "_law_spring" = true)
    (k__law_spring : PySem.W.keepIn K (.ref f__law_spring) = true)
    {f__law_draw : Addr} {od__law_draw an__law_draw : Option Addr} {sl__law_draw : Array (Option Value)} {oc__law_draw kV__law_draw dc__law_draw pm__law_draw cd__law_draw ct__law_draw : Value}
    (a__law_draw : PySem.W.nsIn K mainGlobals "_law_draw" = some (some (.ref f__law_draw)))
    (l__law_draw : K.lookup f__law_draw = some ⟨oc__law_draw, od__law_draw, .func (PySem.W.fnOf "_law_draw" "_law_draw" (defArgs s__law_draw) (defBody s__law_draw) (defScope s__law_draw) .none kV__law_draw dc__law_draw pm__law_draw an__law_draw cd__law_draw ct__law_draw), sl__law_draw⟩)
    (c__law_draw : PySem.W.codeIn K cd__law_draw "_law_draw" = true)
    (k__law_draw : PySem.W.keepIn K (.ref f__law_draw) = true)
    {f__law_web : Addr} {od__law_web an__law_web : Option Addr} {sl__law_web : Array (Option Value)} {oc__law_web kV__law_web dc__law_web pm__law_web cd__law_web ct__law_web : Value}
    (a__law_web : PySem.W.nsIn K mainGlobals "_law_web" = some (some (.ref f__law_web)))
    (l__law_web : K.lookup f__law_web = some ⟨oc__law_web, od__law_web, .func (PySem.W.fnOf "_law_web" "_law_web" (defArgs s__law_web) (defBody s__law_web) (defScope s__law_web) .none kV__law_web dc__law_web pm__law_web an__law_web cd__law_web ct__law_web), sl__law_web⟩)
    (c__law_web : PySem.W.codeIn K cd__law_web "_law_web" = true)
    (k__law_web : PySem.W.keepIn K (.ref f__law_web) = true)
    {f__law_all_ends : Addr} {od__law_all_ends an__law_all_ends : Option Addr} {sl__law_all_ends : Array (Option Value)} {oc__law_all_ends kV__law_all_ends dc__law_all_ends pm__law_all_ends cd__law_all_ends ct__law_all_ends : Value}
    (a__law_all_ends : PySem.W.nsIn K mainGlobals "_law_all_ends" = some (some (.ref f__law_all_ends)))
    (l__law_all_ends : K.lookup f__law_all_ends = some ⟨oc__law_all_ends, od__law_all_ends, .func (PySem.W.fnOf "_law_all_ends" "_law_all_ends" (defArgs s__law_all_ends) (defBody s__law_all_ends) (defScope s__law_all_ends) .none kV__law_all_ends dc__law_all_ends pm__law_all_ends an__law_all_ends cd__law_all_ends ct__law_all_ends), sl__law_all_ends⟩)
    (c__law_all_ends : PySem.W.codeIn K cd__law_all_ends "_law_all_ends" = true)
    (k__law_all_ends : PySem.W.keepIn K (.ref f__law_all_ends) = true)
    {f__law_other : Addr} {od__law_other an__law_other : Option Addr} {sl__law_other : Array (Option Value)} {oc__law_other kV__law_other dc__law_other pm__law_other cd__law_other ct__law_other : Value}
    (a__law_other : PySem.W.nsIn K mainGlobals "_law_other" = some (some (.ref f__law_other)))
    (l__law_other : K.lookup f__law_other = some ⟨oc__law_other, od__law_other, .func (PySem.W.fnOf "_law_other" "_law_other" (defArgs s__law_other) (defBody s__law_other) (defScope s__law_other) .none kV__law_other dc__law_other pm__law_other an__law_other cd__law_other ct__law_other), sl__law_other⟩)
    (c__law_other : PySem.W.codeIn K cd__law_other "_law_other" = true)
    (k__law_other : PySem.W.keepIn K (.ref f__law_other) = true)
    {f__law_pieces : Addr} {od__law_pieces an__law_pieces : Option Addr} {sl__law_pieces : Array (Option Value)} {oc__law_pieces kV__law_pieces dc__law_pieces pm__law_pieces cd__law_pieces ct__law_pieces : Value}
    (a__law_pieces : PySem.W.nsIn K mainGlobals "_law_pieces" = some (some (.ref f__law_pieces)))
    (l__law_pieces : K.lookup f__law_pieces = some ⟨oc__law_pieces, od__law_pieces, .func (PySem.W.fnOf "_law_pieces" "_law_pieces" (defArgs s__law_pieces) (defBody s__law_pieces) (defScope s__law_pieces) .none kV__law_pieces dc__law_pieces pm__law_pieces an__law_pieces cd__law_pieces ct__law_pieces), sl__law_pieces⟩)
    (c__law_pieces : PySem.W.codeIn K cd__law_pieces "_law_pieces" = true)
    (k__law_pieces : PySem.W.keepIn K (.ref f__law_pieces) = true)
    {f__law_partners : Addr} {od__law_partners an__law_partners : Option Addr} {sl__law_partners : Array (Option Value)} {oc__law_partners kV__law_partners dc__law_partners pm__law_partners cd__law_partners ct__law_partners : Value}
    (a__law_partners : PySem.W.nsIn K mainGlobals "_law_partners" = some (some (.ref f__law_partners)))
    (l__law_partners : K.lookup f__law_partners = some ⟨oc__law_partners, od__law_partners, .func (PySem.W.fnOf "_law_partners" "_law_partners" (defArgs s__law_partners) (defBody s__law_partners) (defScope s__law_partners) .none kV__law_partners dc__law_partners pm__law_partners an__law_partners cd__law_partners ct__law_partners), sl__law_partners⟩)
    (c__law_partners : PySem.W.codeIn K cd__law_partners "_law_partners" = true)
    (k__law_partners : PySem.W.keepIn K (.ref f__law_partners) = true)
    {f__law_bent : Addr} {od__law_bent an__law_bent : Option Addr} {sl__law_bent : Array (Option Value)} {oc__law_bent kV__law_bent dc__law_bent pm__law_bent cd__law_bent ct__law_bent : Value}
    (a__law_bent : PySem.W.nsIn K mainGlobals "_law_bent" = some (some (.ref f__law_bent)))
    (l__law_bent : K.lookup f__law_bent = some ⟨oc__law_bent, od__law_bent, .func (PySem.W.fnOf "_law_bent" "_law_bent" (defArgs s__law_bent) (defBody s__law_bent) (defScope s__law_bent) .none kV__law_bent dc__law_bent pm__law_bent an__law_bent cd__law_bent ct__law_bent), sl__law_bent⟩)
    (c__law_bent : PySem.W.codeIn K cd__law_bent "_law_bent" = true)
    (k__law_bent : PySem.W.keepIn K (.ref f__law_bent) = true)
    {f__law_otherwise : Addr} {od__law_otherwise an__law_otherwise : Option Addr} {sl__law_otherwise : Array (Option Value)} {oc__law_otherwise kV__law_otherwise dc__law_otherwise pm__law_otherwise cd__law_otherwise ct__law_otherwise : Value}
    (a__law_otherwise : PySem.W.nsIn K mainGlobals "_law_otherwise" = some (some (.ref f__law_otherwise)))
    (l__law_otherwise : K.lookup f__law_otherwise = some ⟨oc__law_otherwise, od__law_otherwise, .func (PySem.W.fnOf "_law_otherwise" "_law_otherwise" (defArgs s__law_otherwise) (defBody s__law_otherwise) (defScope s__law_otherwise) .none kV__law_otherwise dc__law_otherwise pm__law_otherwise an__law_otherwise cd__law_otherwise ct__law_otherwise), sl__law_otherwise⟩)
    (c__law_otherwise : PySem.W.codeIn K cd__law_otherwise "_law_otherwise" = true)
    (k__law_otherwise : PySem.W.keepIn K (.ref f__law_otherwise) = true)
    {f__law_lines_of : Addr} {od__law_lines_of an__law_lines_of : Option Addr} {sl__law_lines_of : Array (Option Value)} {oc__law_lines_of kV__law_lines_of dc__law_lines_of pm__law_lines_of cd__law_lines_of ct__law_lines_of : Value}
    (a__law_lines_of : PySem.W.nsIn K mainGlobals "_law_lines_of" = some (some (.ref f__law_lines_of)))
    (l__law_lines_of : K.lookup f__law_lines_of = some ⟨oc__law_lines_of, od__law_lines_of, .func (PySem.W.fnOf "_law_lines_of" "_law_lines_of" (defArgs s__law_lines_of) (defBody s__law_lines_of) (defScope s__law_lines_of) .none kV__law_lines_of dc__law_lines_of pm__law_lines_of an__law_lines_of cd__law_lines_of ct__law_lines_of), sl__law_lines_of⟩)
    (c__law_lines_of : PySem.W.codeIn K cd__law_lines_of "_law_lines_of" = true)
    (k__law_lines_of : PySem.W.keepIn K (.ref f__law_lines_of) = true)
    {f__law_is_end : Addr} {od__law_is_end an__law_is_end : Option Addr} {sl__law_is_end : Array (Option Value)} {oc__law_is_end kV__law_is_end dc__law_is_end pm__law_is_end cd__law_is_end ct__law_is_end : Value}
    (a__law_is_end : PySem.W.nsIn K mainGlobals "_law_is_end" = some (some (.ref f__law_is_end)))
    (l__law_is_end : K.lookup f__law_is_end = some ⟨oc__law_is_end, od__law_is_end, .func (PySem.W.fnOf "_law_is_end" "_law_is_end" (defArgs s__law_is_end) (defBody s__law_is_end) (defScope s__law_is_end) .none kV__law_is_end dc__law_is_end pm__law_is_end an__law_is_end cd__law_is_end ct__law_is_end), sl__law_is_end⟩)
    (c__law_is_end : PySem.W.codeIn K cd__law_is_end "_law_is_end" = true)
    (k__law_is_end : PySem.W.keepIn K (.ref f__law_is_end) = true)
    {f__law_at : Addr} {od__law_at an__law_at : Option Addr} {sl__law_at : Array (Option Value)} {oc__law_at kV__law_at dc__law_at pm__law_at cd__law_at ct__law_at : Value}
    (a__law_at : PySem.W.nsIn K mainGlobals "_law_at" = some (some (.ref f__law_at)))
    (l__law_at : K.lookup f__law_at = some ⟨oc__law_at, od__law_at, .func (PySem.W.fnOf "_law_at" "_law_at" (defArgs s__law_at) (defBody s__law_at) (defScope s__law_at) .none kV__law_at dc__law_at pm__law_at an__law_at cd__law_at ct__law_at), sl__law_at⟩)
    (c__law_at : PySem.W.codeIn K cd__law_at "_law_at" = true)
    (k__law_at : PySem.W.keepIn K (.ref f__law_at) = true)
    {f__law_goes : Addr} {od__law_goes an__law_goes : Option Addr} {sl__law_goes : Array (Option Value)} {oc__law_goes kV__law_goes dc__law_goes pm__law_goes cd__law_goes ct__law_goes : Value}
    (a__law_goes : PySem.W.nsIn K mainGlobals "_law_goes" = some (some (.ref f__law_goes)))
    (l__law_goes : K.lookup f__law_goes = some ⟨oc__law_goes, od__law_goes, .func (PySem.W.fnOf "_law_goes" "_law_goes" (defArgs s__law_goes) (defBody s__law_goes) (defScope s__law_goes) .none kV__law_goes dc__law_goes pm__law_goes an__law_goes cd__law_goes ct__law_goes), sl__law_goes⟩)
    (c__law_goes : PySem.W.codeIn K cd__law_goes "_law_goes" = true)
    (k__law_goes : PySem.W.keepIn K (.ref f__law_goes) = true)
    {f__law_is_ride : Addr} {od__law_is_ride an__law_is_ride : Option Addr} {sl__law_is_ride : Array (Option Value)} {oc__law_is_ride kV__law_is_ride dc__law_is_ride pm__law_is_ride cd__law_is_ride ct__law_is_ride : Value}
    (a__law_is_ride : PySem.W.nsIn K mainGlobals "_law_is_ride" = some (some (.ref f__law_is_ride)))
    (l__law_is_ride : K.lookup f__law_is_ride = some ⟨oc__law_is_ride, od__law_is_ride, .func (PySem.W.fnOf "_law_is_ride" "_law_is_ride" (defArgs s__law_is_ride) (defBody s__law_is_ride) (defScope s__law_is_ride) .none kV__law_is_ride dc__law_is_ride pm__law_is_ride an__law_is_ride cd__law_is_ride ct__law_is_ride), sl__law_is_ride⟩)
    (c__law_is_ride : PySem.W.codeIn K cd__law_is_ride "_law_is_ride" = true)
    (k__law_is_ride : PySem.W.keepIn K (.ref f__law_is_ride) = true)
    {f__law_is_round : Addr} {od__law_is_round an__law_is_round : Option Addr} {sl__law_is_round : Array (Option Value)} {oc__law_is_round kV__law_is_round dc__law_is_round pm__law_is_round cd__law_is_round ct__law_is_round : Value}
    (a__law_is_round : PySem.W.nsIn K mainGlobals "_law_is_round" = some (some (.ref f__law_is_round)))
    (l__law_is_round : K.lookup f__law_is_round = some ⟨oc__law_is_round, od__law_is_round, .func (PySem.W.fnOf "_law_is_round" "_law_is_round" (defArgs s__law_is_round) (defBody s__law_is_round) (defScope s__law_is_round) .none kV__law_is_round dc__law_is_round pm__law_is_round an__law_is_round cd__law_is_round ct__law_is_round), sl__law_is_round⟩)
    (c__law_is_round : PySem.W.codeIn K cd__law_is_round "_law_is_round" = true)
    (k__law_is_round : PySem.W.keepIn K (.ref f__law_is_round) = true)
    {f__law_due : Addr} {od__law_due an__law_due : Option Addr} {sl__law_due : Array (Option Value)} {oc__law_due kV__law_due dc__law_due pm__law_due cd__law_due ct__law_due : Value}
    (a__law_due : PySem.W.nsIn K mainGlobals "_law_due" = some (some (.ref f__law_due)))
    (l__law_due : K.lookup f__law_due = some ⟨oc__law_due, od__law_due, .func (PySem.W.fnOf "_law_due" "_law_due" (defArgs s__law_due) (defBody s__law_due) (defScope s__law_due) .none kV__law_due dc__law_due pm__law_due an__law_due cd__law_due ct__law_due), sl__law_due⟩)
    (c__law_due : PySem.W.codeIn K cd__law_due "_law_due" = true)
    (k__law_due : PySem.W.keepIn K (.ref f__law_due) = true)
    {f__law_lists : Addr} {od__law_lists an__law_lists : Option Addr} {sl__law_lists : Array (Option Value)} {oc__law_lists kV__law_lists dc__law_lists pm__law_lists cd__law_lists ct__law_lists : Value}
    (a__law_lists : PySem.W.nsIn K mainGlobals "_law_lists" = some (some (.ref f__law_lists)))
    (l__law_lists : K.lookup f__law_lists = some ⟨oc__law_lists, od__law_lists, .func (PySem.W.fnOf "_law_lists" "_law_lists" (defArgs s__law_lists) (defBody s__law_lists) (defScope s__law_lists) .none kV__law_lists dc__law_lists pm__law_lists an__law_lists cd__law_lists ct__law_lists), sl__law_lists⟩)
    (c__law_lists : PySem.W.codeIn K cd__law_lists "_law_lists" = true)
    (k__law_lists : PySem.W.keepIn K (.ref f__law_lists) = true)
    {f__law_handed : Addr} {od__law_handed an__law_handed : Option Addr} {sl__law_handed : Array (Option Value)} {oc__law_handed kV__law_handed dc__law_handed pm__law_handed cd__law_handed ct__law_handed : Value}
    (a__law_handed : PySem.W.nsIn K mainGlobals "_law_handed" = some (some (.ref f__law_handed)))
    (l__law_handed : K.lookup f__law_handed = some ⟨oc__law_handed, od__law_handed, .func (PySem.W.fnOf "_law_handed" "_law_handed" (defArgs s__law_handed) (defBody s__law_handed) (defScope s__law_handed) .none kV__law_handed dc__law_handed pm__law_handed an__law_handed cd__law_handed ct__law_handed), sl__law_handed⟩)
    (c__law_handed : PySem.W.codeIn K cd__law_handed "_law_handed" = true)
    (k__law_handed : PySem.W.keepIn K (.ref f__law_handed) = true)
    {f_is_row : Addr} {od_is_row an_is_row : Option Addr} {sl_is_row : Array (Option Value)} {oc_is_row kV_is_row dc_is_row pm_is_row cd_is_row ct_is_row : Value}
    (a_is_row : PySem.W.nsIn K mainGlobals "is_row" = some (some (.ref f_is_row)))
    (l_is_row : K.lookup f_is_row = some ⟨oc_is_row, od_is_row, .func (PySem.W.fnOf "is_row" "is_row" (defArgs s_is_row) (defBody s_is_row) (defScope s_is_row) .none kV_is_row dc_is_row pm_is_row an_is_row cd_is_row ct_is_row), sl_is_row⟩)
    (c_is_row : PySem.W.codeIn K cd_is_row "is_row" = true)
    (k_is_row : PySem.W.keepIn K (.ref f_is_row) = true)
    {f_place_of : Addr} {od_place_of an_place_of : Option Addr} {sl_place_of : Array (Option Value)} {oc_place_of kV_place_of dc_place_of pm_place_of cd_place_of ct_place_of : Value}
    (a_place_of : PySem.W.nsIn K mainGlobals "place_of" = some (some (.ref f_place_of)))
    (l_place_of : K.lookup f_place_of = some ⟨oc_place_of, od_place_of, .func (PySem.W.fnOf "place_of" "place_of" (defArgs s_place_of) (defBody s_place_of) (defScope s_place_of) .none kV_place_of dc_place_of pm_place_of an_place_of cd_place_of ct_place_of), sl_place_of⟩)
    (c_place_of : PySem.W.codeIn K cd_place_of "place_of" = true)
    (k_place_of : PySem.W.keepIn K (.ref f_place_of) = true)
    {f_company_of : Addr} {od_company_of an_company_of : Option Addr} {sl_company_of : Array (Option Value)} {oc_company_of kV_company_of dc_company_of pm_company_of cd_company_of ct_company_of : Value}
    (a_company_of : PySem.W.nsIn K mainGlobals "company_of" = some (some (.ref f_company_of)))
    (l_company_of : K.lookup f_company_of = some ⟨oc_company_of, od_company_of, .func (PySem.W.fnOf "company_of" "company_of" (defArgs s_company_of) (defBody s_company_of) (defScope s_company_of) .none kV_company_of dc_company_of pm_company_of an_company_of cd_company_of ct_company_of), sl_company_of⟩)
    (c_company_of : PySem.W.codeIn K cd_company_of "company_of" = true)
    (k_company_of : PySem.W.keepIn K (.ref f_company_of) = true)
    {f_far_end : Addr} {od_far_end an_far_end : Option Addr} {sl_far_end : Array (Option Value)} {oc_far_end kV_far_end dc_far_end pm_far_end cd_far_end ct_far_end : Value}
    (a_far_end : PySem.W.nsIn K mainGlobals "far_end" = some (some (.ref f_far_end)))
    (l_far_end : K.lookup f_far_end = some ⟨oc_far_end, od_far_end, .func (PySem.W.fnOf "far_end" "far_end" (defArgs s_far_end) (defBody s_far_end) (defScope s_far_end) .none kV_far_end dc_far_end pm_far_end an_far_end cd_far_end ct_far_end), sl_far_end⟩)
    (c_far_end : PySem.W.codeIn K cd_far_end "far_end" = true)
    (k_far_end : PySem.W.keepIn K (.ref f_far_end) = true)
    {f_can_go_on : Addr} {od_can_go_on an_can_go_on : Option Addr} {sl_can_go_on : Array (Option Value)} {oc_can_go_on kV_can_go_on dc_can_go_on pm_can_go_on cd_can_go_on ct_can_go_on : Value}
    (a_can_go_on : PySem.W.nsIn K mainGlobals "can_go_on" = some (some (.ref f_can_go_on)))
    (l_can_go_on : K.lookup f_can_go_on = some ⟨oc_can_go_on, od_can_go_on, .func (PySem.W.fnOf "can_go_on" "can_go_on" (defArgs s_can_go_on) (defBody s_can_go_on) (defScope s_can_go_on) .none kV_can_go_on dc_can_go_on pm_can_go_on an_can_go_on cd_can_go_on ct_can_go_on), sl_can_go_on⟩)
    (c_can_go_on : PySem.W.codeIn K cd_can_go_on "can_go_on" = true)
    (k_can_go_on : PySem.W.keepIn K (.ref f_can_go_on) = true)
    {f_is_whole : Addr} {od_is_whole an_is_whole : Option Addr} {sl_is_whole : Array (Option Value)} {oc_is_whole kV_is_whole dc_is_whole pm_is_whole cd_is_whole ct_is_whole : Value}
    (a_is_whole : PySem.W.nsIn K mainGlobals "is_whole" = some (some (.ref f_is_whole)))
    (l_is_whole : K.lookup f_is_whole = some ⟨oc_is_whole, od_is_whole, .func (PySem.W.fnOf "is_whole" "is_whole" (defArgs s_is_whole) (defBody s_is_whole) (defScope s_is_whole) .none kV_is_whole dc_is_whole pm_is_whole an_is_whole cd_is_whole ct_is_whole), sl_is_whole⟩)
    (c_is_whole : PySem.W.codeIn K cd_is_whole "is_whole" = true)
    (k_is_whole : PySem.W.keepIn K (.ref f_is_whole) = true)
    {f_is_end : Addr} {od_is_end an_is_end : Option Addr} {sl_is_end : Array (Option Value)} {oc_is_end kV_is_end dc_is_end pm_is_end cd_is_end ct_is_end : Value}
    (a_is_end : PySem.W.nsIn K mainGlobals "is_end" = some (some (.ref f_is_end)))
    (l_is_end : K.lookup f_is_end = some ⟨oc_is_end, od_is_end, .func (PySem.W.fnOf "is_end" "is_end" (defArgs s_is_end) (defBody s_is_end) (defScope s_is_end) .none kV_is_end dc_is_end pm_is_end an_is_end cd_is_end ct_is_end), sl_is_end⟩)
    (c_is_end : PySem.W.codeIn K cd_is_end "is_end" = true)
    (k_is_end : PySem.W.keepIn K (.ref f_is_end) = true)
    {f_ride_is : Addr} {od_ride_is an_ride_is : Option Addr} {sl_ride_is : Array (Option Value)} {oc_ride_is kV_ride_is dc_ride_is pm_ride_is cd_ride_is ct_ride_is : Value}
    (a_ride_is : PySem.W.nsIn K mainGlobals "ride_is" = some (some (.ref f_ride_is)))
    (l_ride_is : K.lookup f_ride_is = some ⟨oc_ride_is, od_ride_is, .func (PySem.W.fnOf "ride_is" "ride_is" (defArgs s_ride_is) (defBody s_ride_is) (defScope s_ride_is) .none kV_ride_is dc_ride_is pm_ride_is an_ride_is cd_ride_is ct_ride_is), sl_ride_is⟩)
    (c_ride_is : PySem.W.codeIn K cd_ride_is "ride_is" = true)
    (k_ride_is : PySem.W.keepIn K (.ref f_ride_is) = true)
    {f_round_is : Addr} {od_round_is an_round_is : Option Addr} {sl_round_is : Array (Option Value)} {oc_round_is kV_round_is dc_round_is pm_round_is cd_round_is ct_round_is : Value}
    (a_round_is : PySem.W.nsIn K mainGlobals "round_is" = some (some (.ref f_round_is)))
    (l_round_is : K.lookup f_round_is = some ⟨oc_round_is, od_round_is, .func (PySem.W.fnOf "round_is" "round_is" (defArgs s_round_is) (defBody s_round_is) (defScope s_round_is) .none kV_round_is dc_round_is pm_round_is an_round_is cd_round_is ct_round_is), sl_round_is⟩)
    (c_round_is : PySem.W.codeIn K cd_round_is "round_is" = true)
    (k_round_is : PySem.W.keepIn K (.ref f_round_is) = true)
    {f_is_piece : Addr} {od_is_piece an_is_piece : Option Addr} {sl_is_piece : Array (Option Value)} {oc_is_piece kV_is_piece dc_is_piece pm_is_piece cd_is_piece ct_is_piece : Value}
    (a_is_piece : PySem.W.nsIn K mainGlobals "is_piece" = some (some (.ref f_is_piece)))
    (l_is_piece : K.lookup f_is_piece = some ⟨oc_is_piece, od_is_piece, .func (PySem.W.fnOf "is_piece" "is_piece" (defArgs s_is_piece) (defBody s_is_piece) (defScope s_is_piece) .none kV_is_piece dc_is_piece pm_is_piece an_is_piece cd_is_piece ct_is_piece), sl_is_piece⟩)
    (c_is_piece : PySem.W.codeIn K cd_is_piece "is_piece" = true)
    (k_is_piece : PySem.W.keepIn K (.ref f_is_piece) = true)
    {f_riding_is : Addr} {od_riding_is an_riding_is : Option Addr} {sl_riding_is : Array (Option Value)} {oc_riding_is kV_riding_is dc_riding_is pm_riding_is cd_riding_is ct_riding_is : Value}
    (a_riding_is : PySem.W.nsIn K mainGlobals "riding_is" = some (some (.ref f_riding_is)))
    (l_riding_is : K.lookup f_riding_is = some ⟨oc_riding_is, od_riding_is, .func (PySem.W.fnOf "riding_is" "riding_is" (defArgs s_riding_is) (defBody s_riding_is) (defScope s_riding_is) .none kV_riding_is dc_riding_is pm_riding_is an_riding_is cd_riding_is ct_riding_is), sl_riding_is⟩)
    (c_riding_is : PySem.W.codeIn K cd_riding_is "riding_is" = true)
    (k_riding_is : PySem.W.keepIn K (.ref f_riding_is) = true)
    {f_law : Addr} {od_law an_law : Option Addr} {sl_law : Array (Option Value)} {oc_law kV_law dc_law pm_law cd_law ct_law : Value}
    (a_law : PySem.W.nsIn K mainGlobals "law" = some (some (.ref f_law)))
    (l_law : K.lookup f_law = some ⟨oc_law, od_law, .func (PySem.W.fnOf "law" "law" (defArgs s_law) (defBody s_law) (defScope s_law) .none kV_law dc_law pm_law an_law cd_law ct_law), sl_law⟩)
    (c_law : PySem.W.codeIn K cd_law "law" = true)
    (k_law : PySem.W.keepIn K (.ref f_law) = true)
    (z_abs : PySem.W.nsIn K mainGlobals "abs" = some none)
    (z_all : PySem.W.nsIn K mainGlobals "all" = some none)
    (z_bool : PySem.W.nsIn K mainGlobals "bool" = some none)
    (z_int : PySem.W.nsIn K mainGlobals "int" = some none)
    (z_isinstance : PySem.W.nsIn K mainGlobals "isinstance" = some none)
    (z_len : PySem.W.nsIn K mainGlobals "len" = some none)
    (z_list : PySem.W.nsIn K mainGlobals "list" = some none)
    (z_min : PySem.W.nsIn K mainGlobals "min" = some none)
    (z_range : PySem.W.nsIn K mainGlobals "range" = some none)
    (z_repr : PySem.W.nsIn K mainGlobals "repr" = some none)
    (z_set : PySem.W.nsIn K mainGlobals "set" = some none)
    (z_sorted : PySem.W.nsIn K mainGlobals "sorted" = some none)
    (z_str : PySem.W.nsIn K mainGlobals "str" = some none)
    (z_tuple : PySem.W.nsIn K mainGlobals "tuple" = some none)
    (z_zip : PySem.W.nsIn K mainGlobals "zip" = some none)
    {t_RIDE : Tok}
    (n_RIDE : PySem.W.nsIn K mainGlobals "RIDE" = some (some (.str "ride" t_RIDE)))
    {t_ROUND : Tok}
    (n_ROUND : PySem.W.nsIn K mainGlobals "ROUND" = some (some (.str "round" t_ROUND)))
    {t_SIDES : Tok}
    (n_SIDES : PySem.W.nsIn K mainGlobals "SIDES" = some (some (.int 2 t_SIDES)))
    : ∃ fd : FuncData, (∀ (s : Shared) (v : Value), BindsTo s fd ⟨[v], []⟩ [("script", v)]) ∧ ∀ base : Heap, K.In base → base.Ns mainGlobals mg → FnG l.prog w K mg base 11 fa fd ["script"] (spLaw K (mScr 11 g_law)) := by
  have e := hfa.symm.trans (PySem.W.mg_of X G a_law)
  cases e
  have T : Tx K mg := {
    d__law_spring := ⟨_, _, PySem.W.mg_of X G a__law_spring, fun_mk (st := s__law_spring) l__law_spring c__law_spring k__law_spring, (fun_mk (st := s__law_spring) l__law_spring c__law_spring k__law_spring).binds (ps := ["script"]) fun _ _ _ _ _ _ us hl => match us, hl with | [_], _ => rfl⟩
    d__law_draw := ⟨_, _, PySem.W.mg_of X G a__law_draw, fun_mk (st := s__law_draw) l__law_draw c__law_draw k__law_draw, (fun_mk (st := s__law_draw) l__law_draw c__law_draw k__law_draw).binds (ps := ["spring", "many"]) fun _ _ _ _ _ _ us hl => match us, hl with | [_, _], _ => rfl⟩
    d__law_web := ⟨_, _, PySem.W.mg_of X G a__law_web, fun_mk (st := s__law_web) l__law_web c__law_web k__law_web, (fun_mk (st := s__law_web) l__law_web c__law_web k__law_web).binds (ps := ["spring", "most"]) fun _ _ _ _ _ _ us hl => match us, hl with | [_, _], _ => rfl⟩
    d__law_all_ends := ⟨_, _, PySem.W.mg_of X G a__law_all_ends, fun_mk (st := s__law_all_ends) l__law_all_ends c__law_all_ends k__law_all_ends, (fun_mk (st := s__law_all_ends) l__law_all_ends c__law_all_ends k__law_all_ends).binds (ps := ["web"]) fun _ _ _ _ _ _ us hl => match us, hl with | [_], _ => rfl⟩
    d__law_other := ⟨_, _, PySem.W.mg_of X G a__law_other, fun_mk (st := s__law_other) l__law_other c__law_other k__law_other, (fun_mk (st := s__law_other) l__law_other c__law_other k__law_other).binds (ps := ["end"]) fun _ _ _ _ _ _ us hl => match us, hl with | [_], _ => rfl⟩
    d__law_pieces := ⟨_, _, PySem.W.mg_of X G a__law_pieces, fun_mk (st := s__law_pieces) l__law_pieces c__law_pieces k__law_pieces, (fun_mk (st := s__law_pieces) l__law_pieces c__law_pieces k__law_pieces).binds (ps := ["web", "partners"]) fun _ _ _ _ _ _ us hl => match us, hl with | [_, _], _ => rfl⟩
    d__law_partners := ⟨_, _, PySem.W.mg_of X G a__law_partners, fun_mk (st := s__law_partners) l__law_partners c__law_partners k__law_partners, (fun_mk (st := s__law_partners) l__law_partners c__law_partners k__law_partners).binds (ps := ["spring", "web", "often"]) fun _ _ _ _ _ _ us hl => match us, hl with | [_, _, _], _ => rfl⟩
    d__law_bent := ⟨_, _, PySem.W.mg_of X G a__law_bent, fun_mk (st := s__law_bent) l__law_bent c__law_bent k__law_bent, (fun_mk (st := s__law_bent) l__law_bent c__law_bent k__law_bent).binds (ps := ["spring", "web", "ride"]) fun _ _ _ _ _ _ us hl => match us, hl with | [_, _, _], _ => rfl⟩
    d__law_otherwise := ⟨_, _, PySem.W.mg_of X G a__law_otherwise, fun_mk (st := s__law_otherwise) l__law_otherwise c__law_otherwise k__law_otherwise, (fun_mk (st := s__law_otherwise) l__law_otherwise c__law_otherwise k__law_otherwise).binds (ps := ["spring", "web", "pieces"]) fun _ _ _ _ _ _ us hl => match us, hl with | [_, _, _], _ => rfl⟩
    d__law_lines_of := ⟨_, _, PySem.W.mg_of X G a__law_lines_of, fun_mk (st := s__law_lines_of) l__law_lines_of c__law_lines_of k__law_lines_of, (fun_mk (st := s__law_lines_of) l__law_lines_of c__law_lines_of k__law_lines_of).binds (ps := ["pieces"]) fun _ _ _ _ _ _ us hl => match us, hl with | [_], _ => rfl⟩
    d__law_is_end := ⟨_, _, PySem.W.mg_of X G a__law_is_end, fun_mk (st := s__law_is_end) l__law_is_end c__law_is_end k__law_is_end, (fun_mk (st := s__law_is_end) l__law_is_end c__law_is_end k__law_is_end).binds (ps := ["web", "thing"]) fun _ _ _ _ _ _ us hl => match us, hl with | [_, _], _ => rfl⟩
    d__law_at := ⟨_, _, PySem.W.mg_of X G a__law_at, fun_mk (st := s__law_at) l__law_at c__law_at k__law_at, (fun_mk (st := s__law_at) l__law_at c__law_at k__law_at).binds (ps := ["web", "end"]) fun _ _ _ _ _ _ us hl => match us, hl with | [_, _], _ => rfl⟩
    d__law_goes := ⟨_, _, PySem.W.mg_of X G a__law_goes, fun_mk (st := s__law_goes) l__law_goes c__law_goes k__law_goes, (fun_mk (st := s__law_goes) l__law_goes c__law_goes k__law_goes).binds (ps := ["web", "end", "later"]) fun _ _ _ _ _ _ us hl => match us, hl with | [_, _, _], _ => rfl⟩
    d__law_is_ride := ⟨_, _, PySem.W.mg_of X G a__law_is_ride, fun_mk (st := s__law_is_ride) l__law_is_ride c__law_is_ride k__law_is_ride, (fun_mk (st := s__law_is_ride) l__law_is_ride c__law_is_ride k__law_is_ride).binds (ps := ["web", "thing"]) fun _ _ _ _ _ _ us hl => match us, hl with | [_, _], _ => rfl⟩
    d__law_is_round := ⟨_, _, PySem.W.mg_of X G a__law_is_round, fun_mk (st := s__law_is_round) l__law_is_round c__law_is_round k__law_is_round, (fun_mk (st := s__law_is_round) l__law_is_round c__law_is_round k__law_is_round).binds (ps := ["web", "thing"]) fun _ _ _ _ _ _ us hl => match us, hl with | [_, _], _ => rfl⟩
    d__law_due := ⟨_, _, PySem.W.mg_of X G a__law_due, fun_mk (st := s__law_due) l__law_due c__law_due k__law_due, (fun_mk (st := s__law_due) l__law_due c__law_due k__law_due).binds (ps := ["web", "pieces"]) fun _ _ _ _ _ _ us hl => match us, hl with | [_, _], _ => rfl⟩
    d__law_lists := ⟨_, _, PySem.W.mg_of X G a__law_lists, fun_mk (st := s__law_lists) l__law_lists c__law_lists k__law_lists, (fun_mk (st := s__law_lists) l__law_lists c__law_lists k__law_lists).binds (ps := ["thing"]) fun _ _ _ _ _ _ us hl => match us, hl with | [_], _ => rfl⟩
    d__law_handed := ⟨_, _, PySem.W.mg_of X G a__law_handed, fun_mk (st := s__law_handed) l__law_handed c__law_handed k__law_handed, (fun_mk (st := s__law_handed) l__law_handed c__law_handed k__law_handed).binds (ps := ["spring", "thing"]) fun _ _ _ _ _ _ us hl => match us, hl with | [_, _], _ => rfl⟩
    d_is_row := ⟨_, _, PySem.W.mg_of X G a_is_row, fun_mk (st := s_is_row) l_is_row c_is_row k_is_row, (fun_mk (st := s_is_row) l_is_row c_is_row k_is_row).binds (ps := ["thing", "size"]) fun _ _ _ _ _ _ us hl => match us, hl with | [_, _], _ => rfl⟩
    d_place_of := ⟨_, _, PySem.W.mg_of X G a_place_of, fun_mk (st := s_place_of) l_place_of c_place_of k_place_of, (fun_mk (st := s_place_of) l_place_of c_place_of k_place_of).binds (ps := ["web", "end"]) fun _ _ _ _ _ _ us hl => match us, hl with | [_, _], _ => rfl⟩
    d_company_of := ⟨_, _, PySem.W.mg_of X G a_company_of, fun_mk (st := s_company_of) l_company_of c_company_of k_company_of, (fun_mk (st := s_company_of) l_company_of c_company_of k_company_of).binds (ps := ["web", "end"]) fun _ _ _ _ _ _ us hl => match us, hl with | [_, _], _ => rfl⟩
    d_far_end := ⟨_, _, PySem.W.mg_of X G a_far_end, fun_mk (st := s_far_end) l_far_end c_far_end k_far_end, (fun_mk (st := s_far_end) l_far_end c_far_end k_far_end).binds (ps := ["end"]) fun _ _ _ _ _ _ us hl => match us, hl with | [_], _ => rfl⟩
    d_can_go_on := ⟨_, _, PySem.W.mg_of X G a_can_go_on, fun_mk (st := s_can_go_on) l_can_go_on c_can_go_on k_can_go_on, (fun_mk (st := s_can_go_on) l_can_go_on c_can_go_on k_can_go_on).binds (ps := ["web", "end", "later"]) fun _ _ _ _ _ _ us hl => match us, hl with | [_, _, _], _ => rfl⟩
    d_is_whole := ⟨_, _, PySem.W.mg_of X G a_is_whole, fun_mk (st := s_is_whole) l_is_whole c_is_whole k_is_whole, (fun_mk (st := s_is_whole) l_is_whole c_is_whole k_is_whole).binds (ps := ["thing"]) fun _ _ _ _ _ _ us hl => match us, hl with | [_], _ => rfl⟩
    d_is_end := ⟨_, _, PySem.W.mg_of X G a_is_end, fun_mk (st := s_is_end) l_is_end c_is_end k_is_end, (fun_mk (st := s_is_end) l_is_end c_is_end k_is_end).binds (ps := ["web", "thing"]) fun _ _ _ _ _ _ us hl => match us, hl with | [_, _], _ => rfl⟩
    d_ride_is := ⟨_, _, PySem.W.mg_of X G a_ride_is, fun_mk (st := s_ride_is) l_ride_is c_ride_is k_ride_is, (fun_mk (st := s_ride_is) l_ride_is c_ride_is k_ride_is).binds (ps := ["web", "ride"]) fun _ _ _ _ _ _ us hl => match us, hl with | [_, _], _ => rfl⟩
    d_round_is := ⟨_, _, PySem.W.mg_of X G a_round_is, fun_mk (st := s_round_is) l_round_is c_round_is k_round_is, (fun_mk (st := s_round_is) l_round_is c_round_is k_round_is).binds (ps := ["web", "ride"]) fun _ _ _ _ _ _ us hl => match us, hl with | [_, _], _ => rfl⟩
    d_is_piece := ⟨_, _, PySem.W.mg_of X G a_is_piece, fun_mk (st := s_is_piece) l_is_piece c_is_piece k_is_piece, (fun_mk (st := s_is_piece) l_is_piece c_is_piece k_is_piece).binds (ps := ["web", "thing"]) fun _ _ _ _ _ _ us hl => match us, hl with | [_, _], _ => rfl⟩
    d_riding_is := ⟨_, _, PySem.W.mg_of X G a_riding_is, fun_mk (st := s_riding_is) l_riding_is c_riding_is k_riding_is, (fun_mk (st := s_riding_is) l_riding_is c_riding_is k_riding_is).binds (ps := ["web", "riding"]) fun _ _ _ _ _ _ us hl => match us, hl with | [_, _], _ => rfl⟩
    d_law := ⟨_, _, PySem.W.mg_of X G a_law, fun_mk (st := s_law) l_law c_law k_law, (fun_mk (st := s_law) l_law c_law k_law).binds (ps := ["script"]) fun _ _ _ _ _ _ us hl => match us, hl with | [_], _ => rfl⟩
    z_abs := PySem.W.mg_none_of X G z_abs
    z_all := PySem.W.mg_none_of X G z_all
    z_bool := PySem.W.mg_none_of X G z_bool
    z_int := PySem.W.mg_none_of X G z_int
    z_isinstance := PySem.W.mg_none_of X G z_isinstance
    z_len := PySem.W.mg_none_of X G z_len
    z_list := PySem.W.mg_none_of X G z_list
    z_min := PySem.W.mg_none_of X G z_min
    z_range := PySem.W.mg_none_of X G z_range
    z_repr := PySem.W.mg_none_of X G z_repr
    z_set := PySem.W.mg_none_of X G z_set
    z_sorted := PySem.W.mg_none_of X G z_sorted
    z_str := PySem.W.mg_none_of X G z_str
    z_tuple := PySem.W.mg_none_of X G z_tuple
    z_zip := PySem.W.mg_none_of X G z_zip
    c_RIDE := ⟨_, PySem.W.mg_of X G n_RIDE⟩
    c_ROUND := ⟨_, PySem.W.mg_of X G n_ROUND⟩
    c_SIDES := ⟨_, PySem.W.mg_of X G n_SIDES⟩
  }
  exact ⟨PySem.W.fnOf "law" "law" (defArgs s_law) (defBody s_law) (defScope s_law) .none kV_law dc_law pm_law an_law cd_law ct_law, fun s v => .of_eq rfl, fun base _ _ => fn_lawG (fun B hB => trivial) (fun_mk (st := s_law) l_law c_law k_law) sc_law rfl (by decide) (law_body T _)⟩
end Lw.k23
open PySem PySem.W PyProof.Rows
set_option maxHeartbeats 0 in
theorem PySem.Challenge.cw_changeride_k23_ridings_judged_holds : PySem.Challenge.rw_changeride_k23_ridings_judged.Holds := by
  w_on; o_law; k_head; (case hw => w_witness2)
  k_fill
  refine Fu.walk_ofG (l := PySem.Challenge.rw_changeride_k23_ridings_judged) (n := 63) (k := 11) (x := "script") (sp := fun w => Fu.spLaw _ (Fu.mScr 11 Lw.k23.g_law)) rfl (by decide) rfl ⟨rfl, by decide, by decide⟩ (fun w h Y => PySem.W.kIn_of Y) ?F (fun _ H a ns hl ho hS => ⟨a, ns, rfl, hS, hl, fun b xs e => (by rcases ho b with z | ⟨o, ys, z⟩ <;> rw [e] at z <;> cases z), Lw.k23.law_true ns hl, (fun p hp => nomatch hp), fun _ => rfl⟩)
  case F =>
    intro w mg fa h KX G hmg
    refine' Lw.k23.all_mk KX G hmg ?a__law_spring ?l__law_spring ?c__law_spring ?k__law_spring ?a__law_draw ?l__law_draw ?c__law_draw ?k__law_draw ?a__law_web ?l__law_web ?c__law_web ?k__law_web ?a__law_all_ends ?l__law_all_ends ?c__law_all_ends ?k__law_all_ends ?a__law_other ?l__law_other ?c__law_other ?k__law_other ?a__law_pieces ?l__law_pieces ?c__law_pieces ?k__law_pieces ?a__law_partners ?l__law_partners ?c__law_partners ?k__law_partners ?a__law_bent ?l__law_bent ?c__law_bent ?k__law_bent ?a__law_otherwise ?l__law_otherwise ?c__law_otherwise ?k__law_otherwise ?a__law_lines_of ?l__law_lines_of ?c__law_lines_of ?k__law_lines_of ?a__law_is_end ?l__law_is_end ?c__law_is_end ?k__law_is_end ?a__law_at ?l__law_at ?c__law_at ?k__law_at ?a__law_goes ?l__law_goes ?c__law_goes ?k__law_goes ?a__law_is_ride ?l__law_is_ride ?c__law_is_ride ?k__law_is_ride ?a__law_is_round ?l__law_is_round ?c__law_is_round ?k__law_is_round ?a__law_due ?l__law_due ?c__law_due ?k__law_due ?a__law_lists ?l__law_lists ?c__law_lists ?k__law_lists ?a__law_handed ?l__law_handed ?c__law_handed ?k__law_handed ?a_is_row ?l_is_row ?c_is_row ?k_is_row ?a_place_of ?l_place_of ?c_place_of ?k_place_of ?a_company_of ?l_company_of ?c_company_of ?k_company_of ?a_far_end ?l_far_end ?c_far_end ?k_far_end ?a_can_go_on ?l_can_go_on ?c_can_go_on ?k_can_go_on ?a_is_whole ?l_is_whole ?c_is_whole ?k_is_whole ?a_is_end ?l_is_end ?c_is_end ?k_is_end ?a_ride_is ?l_ride_is ?c_ride_is ?k_ride_is ?a_round_is ?l_round_is ?c_round_is ?k_round_is ?a_is_piece ?l_is_piece ?c_is_piece ?k_is_piece ?a_riding_is ?l_riding_is ?c_riding_is ?k_riding_is ?a_law ?l_law ?c_law ?k_law ?z_abs ?z_all ?z_bool ?z_int ?z_isinstance ?z_len ?z_list ?z_min ?z_range ?z_repr ?z_set ?z_sorted ?z_str ?z_tuple ?z_zip ?n_RIDE ?n_ROUND ?n_SIDES
    (case a__law_spring => k_is)
    (case l__law_spring => k_is)
    (case c__law_spring => k_is)
    (case k__law_spring => k_is)
    (case a__law_draw => k_is)
    (case l__law_draw => k_is)
    (case c__law_draw => k_is)
    (case k__law_draw => k_is)
    (case a__law_web => k_is)
    (case l__law_web => k_is)
    (case c__law_web => k_is)
    (case k__law_web => k_is)
    (case a__law_all_ends => k_is)
    (case l__law_all_ends => k_is)
    (case c__law_all_ends => k_is)
    (case k__law_all_ends => k_is)
    (case a__law_other => k_is)
    (case l__law_other => k_is)
    (case c__law_other => k_is)
    (case k__law_other => k_is)
    (case a__law_pieces => k_is)
    (case l__law_pieces => k_is)
    (case c__law_pieces => k_is)
    (case k__law_pieces => k_is)
    (case a__law_partners => k_is)
    (case l__law_partners => k_is)
    (case c__law_partners => k_is)
    (case k__law_partners => k_is)
    (case a__law_bent => k_is)
    (case l__law_bent => k_is)
    (case c__law_bent => k_is)
    (case k__law_bent => k_is)
    (case a__law_otherwise => k_is)
    (case l__law_otherwise => k_is)
    (case c__law_otherwise => k_is)
    (case k__law_otherwise => k_is)
    (case a__law_lines_of => k_is)
    (case l__law_lines_of => k_is)
    (case c__law_lines_of => k_is)
    (case k__law_lines_of => k_is)
    (case a__law_is_end => k_is)
    (case l__law_is_end => k_is)
    (case c__law_is_end => k_is)
    (case k__law_is_end => k_is)
    (case a__law_at => k_is)
    (case l__law_at => k_is)
    (case c__law_at => k_is)
    (case k__law_at => k_is)
    (case a__law_goes => k_is)
    (case l__law_goes => k_is)
    (case c__law_goes => k_is)
    (case k__law_goes => k_is)
    (case a__law_is_ride => k_is)
    (case l__law_is_ride => k_is)
    (case c__law_is_ride => k_is)
    (case k__law_is_ride => k_is)
    (case a__law_is_round => k_is)
    (case l__law_is_round => k_is)
    (case c__law_is_round => k_is)
    (case k__law_is_round => k_is)
    (case a__law_due => k_is)
    (case l__law_due => k_is)
    (case c__law_due => k_is)
    (case k__law_due => k_is)
    (case a__law_lists => k_is)
    (case l__law_lists => k_is)
    (case c__law_lists => k_is)
    (case k__law_lists => k_is)
    (case a__law_handed => k_is)
    (case l__law_handed => k_is)
    (case c__law_handed => k_is)
    (case k__law_handed => k_is)
    (case a_is_row => k_is)
    (case l_is_row => k_is)
    (case c_is_row => k_is)
    (case k_is_row => k_is)
    (case a_place_of => k_is)
    (case l_place_of => k_is)
    (case c_place_of => k_is)
    (case k_place_of => k_is)
    (case a_company_of => k_is)
    (case l_company_of => k_is)
    (case c_company_of => k_is)
    (case k_company_of => k_is)
    (case a_far_end => k_is)
    (case l_far_end => k_is)
    (case c_far_end => k_is)
    (case k_far_end => k_is)
    (case a_can_go_on => k_is)
    (case l_can_go_on => k_is)
    (case c_can_go_on => k_is)
    (case k_can_go_on => k_is)
    (case a_is_whole => k_is)
    (case l_is_whole => k_is)
    (case c_is_whole => k_is)
    (case k_is_whole => k_is)
    (case a_is_end => k_is)
    (case l_is_end => k_is)
    (case c_is_end => k_is)
    (case k_is_end => k_is)
    (case a_ride_is => k_is)
    (case l_ride_is => k_is)
    (case c_ride_is => k_is)
    (case k_ride_is => k_is)
    (case a_round_is => k_is)
    (case l_round_is => k_is)
    (case c_round_is => k_is)
    (case k_round_is => k_is)
    (case a_is_piece => k_is)
    (case l_is_piece => k_is)
    (case c_is_piece => k_is)
    (case k_is_piece => k_is)
    (case a_riding_is => k_is)
    (case l_riding_is => k_is)
    (case c_riding_is => k_is)
    (case k_riding_is => k_is)
    (case a_law => k_is)
    (case l_law => k_is)
    (case c_law => k_is)
    (case k_law => k_is)
    (case z_abs => k_is)
    (case z_all => k_is)
    (case z_bool => k_is)
    (case z_int => k_is)
    (case z_isinstance => k_is)
    (case z_len => k_is)
    (case z_list => k_is)
    (case z_min => k_is)
    (case z_range => k_is)
    (case z_repr => k_is)
    (case z_set => k_is)
    (case z_sorted => k_is)
    (case z_str => k_is)
    (case z_tuple => k_is)
    (case z_zip => k_is)
    (case n_RIDE => k_is)
    (case n_ROUND => k_is)
    (case n_SIDES => k_is)
