import PyProof.Rows.All
import Wide.All
import OpenK.AllK
import Wide.FinOn
import HandS.ForMost
import HandS.Flow
import HandS.Deep
import HandS.TupAny
import HandS.Codes
import HandS.IsInst
import HandS.Style
import HandS.Wide
import HandS.Zip
import HandS.Rev
import HandS.Lambda
import HandS.Exc
import HandS.TupLe
import KE.DataMinMax
import KE.SortData
import HandS.Conv
import HandS.Ends
import HandS.RaiseMore
import KE.DataFind
import HandS.Flt
import HandS.ExcIs
import HandS.ExcValue
import HandS.WordsExc
import HandS.Dict
import KE.KDictDisplayH
import HandS.ReplaceLit
import KE.GoesMore
import KE.GoesEnum
import HandS.Set
import HandS.SetBool
import PyProof.MeetsSeq2
import HandS.Text
import KE.SortKeyHeap
import KE.KDictSum
import KE.KDictCopyH
import HandS.SetKeys
import HandS.EndTab
import HandS.Strs
import PySem.Challenge.RW_changeride_k07_whole_parts_under_deeds
set_option Elab.async false
set_option linter.all false
set_option maxRecDepth 100000

set_option maxHeartbeats 4000000
namespace Fu
open PySem PySem.Spec PyProof.Rows L2

/-! ### the frame: what may be forgotten for the time of a call -/
def Loose : HO → Prop
  | .lst _ => True
  | .dK _ => True
  | .dT _ => True
  | .set _ _ => True
  | _ => False
def lpins (H G : Hp) (h : Heap) : List (Addr × Obj) :=
  (List.range h.objs.size).filterMap fun a => if (H a).isSome = true ∧ (G a).isNone = true then (h.get? a).map fun o => (a, o) else none
theorem mem_lpins {H G : Hp} {h : Heap} {a : Addr} {o : Obj} {u : HO} (h1 : H a = some u) (h2 : G a = none) (h3 : h.get? a = some o) : (a, o) ∈ lpins H G h :=
  List.mem_filterMap.mpr ⟨a, List.mem_range.mpr (Heap.lt_size h3), by simp [h1, h2, h3]⟩
theorem of_lpins {H G : Hp} {h : Heap} {p : Addr × Obj} (hp : p ∈ lpins H G h) : (∃ u, H p.1 = some u) ∧ G p.1 = none ∧ h.get? p.1 = some p.2 := by
  obtain ⟨b, _, e⟩ := List.mem_filterMap.mp hp
  split at e
  · rename_i hc
    cases q : h.get? b with
    | none => rw [q] at e; cases e
    | some u =>
      rw [q] at e
      have e' : (b, u) = p := Option.some.inj e
      subst e'
      exact ⟨Option.isSome_iff_exists.mp hc.1, Option.isNone_iff_eq_none.mp hc.2, q⟩
  · cases e
/-- G within H: what is over may be forgotten -/
structure Sub (G H : Hp) : Prop where
  same : Same G H
  loose : ∀ a o, H a = some o → G a = none → Loose o
theorem Sub.none {G H : Hp} (S : Sub G H) {b : Addr} (e : H b = none) : G b = none := S.same.free e
theorem Sub.keep {G H : Hp} (S : Sub G H) {b : Addr} {o : HO} (e : H b = some o) (n : ¬ Loose o) : G b = some o := by
  cases q : G b with
  | none => exact absurd (S.loose b o e q) n
  | some u => rw [S.same b u q] at e; exact e
theorem Sub.refl (H : Hp) : Sub H H := ⟨Same.refl H, fun a o e n => by rw [e] at n; cases n⟩
def mixH (G H G' : Hp) : Hp := fun a => match G a, H a with
  | none, some o => some o
  | _, _ => G' a
theorem mix_lost {G H G' : Hp} {a : Addr} {o : HO} (h1 : G a = none) (h2 : H a = some o) : mixH G H G' a = some o := by unfold mixH; rw [h1, h2]
theorem mix_held {G H G' : Hp} {a : Addr} {o : HO} (h1 : G a = some o) : mixH G H G' a = G' a := by unfold mixH; rw [h1]
theorem mix_free {G H G' : Hp} {a : Addr} (h2 : H a = none) : mixH G H G' a = G' a := by unfold mixH; rw [h2]; cases G a <;> rfl

section
variable {X : Cx} {pins : List (Addr × Obj)} {σ : L2.St} {H G G' : Hp} {s s' : Shared}
theorem fs_none (I : Inv X pins σ H s) {b : Addr} (hb : b ∈ X.fs) : H b = none := by
  obtain ⟨_, o, ho, _⟩ := I.ok.funs.mem hb
  exact I.base.free b o ho (I.ok.frf b hb) fun z => I.ok.exfs b z hb
theorem loose_cell {P : Program} {w : World} {h : Heap} {a : Addr} {u : HO} {o : Obj} (x : ObjOk P w H h a u) (l : Loose u) (e : h.get? a = some o) : ∀ v, o.data ≠ .cell v := by
  intro v z
  cases u with
  | lst xs => obtain ⟨_, its, n, _, e1⟩ := x; rw [e] at e1; cases e1; cases z
  | dK kvs => obtain ⟨_, _, vs, _, ob, es, ep, e1, _, d, _⟩ := x; rw [e] at e1; cases e1; rw [d] at z; cases z
  | dT kvs => obtain ⟨_, _, vs, _, ob, es, ep, e1, _, d, _⟩ := x; rw [e] at e1; cases e1; rw [d] at z; cases z
  | set S n => obtain ⟨ob, es, ep, t, e1, _, d, _⟩ := x; rw [e] at e1; cases e1; rw [d] at z; cases z
  | _ => exact l
theorem loose_there {P : Program} {w : World} {h : Heap} {a : Addr} {u : HO} (x : ObjOk P w H h a u) (l : Loose u) : ∃ o, h.get? a = some o := by
  cases u with
  | lst xs => obtain ⟨_, its, n, _, e1⟩ := x; exact ⟨_, e1⟩
  | dK kvs => obtain ⟨_, _, vs, _, ob, es, ep, e1, _⟩ := x; exact ⟨_, e1⟩
  | dT kvs => obtain ⟨_, _, vs, _, ob, es, ep, e1, _⟩ := x; exact ⟨_, e1⟩
  | set S n => obtain ⟨ob, es, ep, t, e1, _⟩ := x; exact ⟨_, e1⟩
  | _ => exact l.elim
theorem forget (I : Inv X pins σ H s) (S : Sub G H) : Inv X (pins ++ lpins H G s.heap) σ G s where
  ok := I.ok
  os := I.os
  bare := I.bare
  base := ⟨I.base.keep, I.base.slot, fun b o e n hx => S.none (I.base.free b o e n hx), I.base.there,
    fun b xs q => S.keep (I.base.tups b xs q) (fun z => z), fun b o u q => S.keep (I.base.frzs b o u q) (fun z => z),
    fun b ps q => by obtain ⟨m, e⟩ := I.base.tbls b ps q; exact ⟨m, S.keep e (fun z => z)⟩⟩
  loc := I.loc
  cell := I.cell
  free := S.none I.free
  freeC := fun x c e => S.none (I.freeC x c e)
  pin := fun p hp => by
    rcases List.mem_append.mp hp with hp | hp
    · obtain ⟨e, n, r⟩ := I.pin p (List.mem_append_left _ hp)
      exact ⟨e, S.none n, r⟩
    · rcases List.mem_append.mp hp with hp | hp
      · obtain ⟨e, n, r⟩ := I.pin p (List.mem_append_right _ hp)
        exact ⟨e, S.none n, r⟩
      · obtain ⟨⟨u, hu⟩, hg, he⟩ := of_lpins hp
        refine ⟨he, hg, fun z => ?_, fun z => ?_, loose_cell (I.hok p.1 u hu) (S.loose _ _ hu hg) he⟩
        · rw [z, I.free] at hu; cases hu
        · rw [fs_none I z] at hu; cases hu
  hok := fun a o e => (I.hok a o (S.same a o e)).stay (fun b u _ q => q) (fun b q => S.keep q (fun z => z)) (fun b xs q => S.keep q (fun z => z))
  len := I.len
theorem lost_of {τ : L2.St} (I : Inv X pins σ H s) (S : Sub G H) (J : Inv X (pins ++ lpins H G s.heap) τ G' s') : ∀ b o, H b = some o → G b = none → G' b = none := fun b o hb hg => by
  obtain ⟨ob, hob⟩ : ∃ ob, s.heap.get? b = some ob := loose_there (I.hok b o hb) (S.loose b o hb hg)
  exact (J.pin (b, ob) (List.mem_append_right _ (List.mem_append_right _ (mem_lpins hb hg hob)))).2.1
theorem remember {τ : L2.St} (I : Inv X pins σ H s) (S : Sub G H) (J : Inv X (pins ++ lpins H G s.heap) τ G' s') (ht : ∀ b xs, G b = some (.tup xs) → G' b = some (.tup xs)) :
    Inv X pins τ (mixH G H G') s' := by
  have lost : ∀ b o, H b = some o → G b = none → G' b = none ∧ ∀ ob, s.heap.get? b = some ob → s'.heap.get? b = some ob := fun b o hb hg => by
    obtain ⟨ob, hob⟩ : ∃ ob, s.heap.get? b = some ob := loose_there (I.hok b o hb) (S.loose b o hb hg)
    obtain ⟨e1, e2, _⟩ := J.pin (b, ob) (List.mem_append_right _ (List.mem_append_right _ (mem_lpins hb hg hob)))
    exact ⟨e2, fun ob' h' => by rw [hob] at h'; cases h'; exact e1⟩
  have up : ∀ b o, G' b = some o → mixH G H G' b = some o := fun b o e => by
    cases q : G b with
    | some u => rw [mix_held q]; exact e
    | none =>
      cases r : H b with
      | none => rw [mix_free r]; exact e
      | some u => rw [(lost b u r q).1] at e; cases e
  have nn : ∀ b, G' b = none → H b = none → mixH G H G' b = none := fun b e r => by rw [mix_free r]; exact e
  refine ⟨J.ok, J.os, J.bare, ⟨J.base.keep, J.base.slot, fun b o e n hx => nn b (J.base.free b o e n hx) (I.base.free b o e n hx), J.base.there,
    fun b xs q => up _ _ (J.base.tups b xs q), fun b o u q => up _ _ (J.base.frzs b o u q), fun b ps q => ?_⟩, J.loc, J.cell, nn _ J.free I.free, fun x c e => nn _ (J.freeC x c e) (I.freeC x c e), fun p hp => ?_, fun a o e => ?_, J.len⟩
  · obtain ⟨m, e⟩ := J.base.tbls b ps q
    exact ⟨m, up _ _ e⟩
  · have hp' : p ∈ X.pn ++ (pins ++ lpins H G s.heap) := (List.mem_append.mp hp).elim (fun z => List.mem_append_left _ z) fun z => List.mem_append_right _ (List.mem_append_left _ z)
    obtain ⟨e, n, r⟩ := J.pin p hp'
    exact ⟨e, nn _ n (I.pin p hp).2.1, r⟩
  · cases q : G a with
    | some u =>
      rw [mix_held q] at e
      exact (J.hok a o e).stay (fun b u _ q => q) (fun b q => up _ _ q) (fun b xs q => up _ _ q)
    | none =>
      cases r : H a with
      | none =>
        rw [mix_free r] at e
        exact (J.hok a o e).stay (fun b u _ q => q) (fun b q => up _ _ q) (fun b xs q => up _ _ q)
      | some u =>
        rw [mix_lost q r] at e
        cases e
        have k := (lost a o r q).2
        have x := I.hok a o r
        have l := S.loose a o r q
        cases o with
        | lst xs => obtain ⟨z, its, n, rv, e1⟩ := x; exact ⟨z, its, n, rv, k _ e1⟩
        | dK kvs => obtain ⟨z, y, vs, rv, ob, es, ep, e1, c⟩ := x; exact ⟨z, y, vs, rv, ob, es, ep, k _ e1, c⟩
        | dT kvs =>
          obtain ⟨z, y, xs, rv, ob, es, ep, e1, c⟩ := x
          exact ⟨z, y, xs, Paired.mapP rv fun p q z => ⟨z.1, up _ _ (ht _ _ (S.keep z.2.1 (fun z => z))), z.2.2⟩, ob, es, ep, k _ e1, c⟩
        | set T n => obtain ⟨ob, es, ep, t, e1, c⟩ := x; exact ⟨ob, es, ep, t, k _ e1, c⟩
        | _ => exact l.elim
end

section
variable {X : Cx} {CX : CXT} {k : Nat} {f C : Addr} {fd : FuncData} {ps : List Str} {sp : Sp} {dvs : List V} {ds : List Value} {E : XK} {x m : Str} {p pos apos : Pos} {e o : Expr} {es : List Expr} {ta : TE} {t : TA}
theorem run_fnF {pins : List (Addr × Obj)} {σ : L2.St} {H G : Hp} {s : Shared} {Q : VK} {us : List Value} {vs : List V} (F : FnOk X.prog X.w X.K X.mg X.base CX k f fd ps sp) (hr : Room k X.A) (hb : Binds X.K fd ps ds) (hd : Vals dvs ds) (hx : Passes CX X E)
    (I : Inv X pins σ H s) (r : Vals vs us) (S : Sub G H) (h : sp (vs ++ dvs) G (fun v G' => (∀ b xs, G b = some (.tup xs) → G' b = some (.tup xs)) ∧ ((∀ b o, H b = some o → G b = none → G' b = none) → Q v (mixH G H G'))) E) :
    wpAny (model X.prog X.w) X.A (call (.ref f) us) (EP X pins σ Q) X.xe s := by
  refine thn (run_fn F hr hb hd hx (forget I S) r h) fun u s' ⟨v, G', I', rv, ht, q⟩ => ⟨v, mixH G H G', remember I S I' ht, rv, q (lost_of I S I')⟩
/-- f(..) called over a part of the heap -/
def tCallF (sp : Sp) (dvs : List V) (E : XK) (t : TA) : TE := fun σ H Q => t σ H fun vs H1 => ∃ G, Sub G H1 ∧ sp (vs ++ dvs) G (fun v G' => (∀ b xs, G b = some (.tup xs) → G' b = some (.tup xs)) ∧ ((∀ b o, H1 b = some o → G b = none → G' b = none) → Q v (mixH G H1 G'))) E
theorem pe_callF (F : FnOk X.prog X.w X.K X.mg X.base CX k f fd ps sp) (hr : Room k X.A) (hg : Gl X x) (hm : X.mg x = some (.ref f)) (hk : PySem.W.keepIn X.K (.ref f) = true) (hb : Binds X.K fd ps ds) (hd : Vals dvs ds) (hx : Passes CX X E)
    (ha : PA X (e :: es) t) (hdb : (x == ("__debug__" : Str)) = false := by decide) (he : starEach (e :: es) X.env = (false, eval e X.env) :: starEach es X.env := by rfl) (hpl : (backTo pos (starEach es X.env)).any (·.1) = false := by rfl) :
    PE X (.Call (.Name x p) (e :: es) [] pos) (tCallF sp dvs E t) := by
  refine ⟨fun pins s σ H Q I h => ?_⟩
  refine wpAny_Call_Name_kw (ld_glob I hg hm ?_ hdb)
  refine PySem.W.callWith_K (h₀ := X.base) I.ok.mod.kin hk (thn (ha.run pos pins s σ H _ I h) fun us s1 ⟨vs, H1, I1, r, G, S, q⟩ => ⟨I1.kIn, ?_⟩) he hpl
  exact run_fnF F hr hb hd hx I1 r S q
end

/-! ### any expression, test, target, over a part of the heap -/
def Back (G H : Hp) (Q : Hp → Prop) : Hp → Prop := fun G' => (∀ b xs, G b = some (.tup xs) → G' b = some (.tup xs)) ∧ ((∀ b o, H b = some o → G b = none → G' b = none) → Q (mixH G H G'))
def tFr (t : TE) : TE := fun σ H Q => ∃ G, Sub G H ∧ t σ G fun v => Back G H (Q v)
def tFrT (t : TT) : TT := fun σ H Q => ∃ G, Sub G H ∧ t σ G fun v => Back G H (Q v)
def gFr (t : TG) : TG := fun x σ H Q => ∃ G, Sub G H ∧ t x σ G fun σ' => Back G H (Q σ')
def iFr (t : TI) : TI := fun σ H R => ∃ G, Sub G H ∧ t σ G fun J => Back G H (R J)
section
variable {X : Cx} {e : Expr}
theorem pe_fr {t : TE} (h : PE X e t) : PE X e (tFr t) := ⟨fun pins s σ H Q I ⟨G, S, q⟩ =>
  thn (h.run _ s σ G _ (forget I S) q) fun u s' ⟨v, G', J, r, ht, q⟩ => ⟨v, _, remember I S J ht, r, q (lost_of I S J)⟩⟩
theorem pts_fr {es : List Expr} {t : TT} (h : PTs X es t) : PTs X es (tFrT t) := ⟨fun pins s σ H Q I ⟨G, S, q⟩ =>
  thn (h.run _ s σ G _ (forget I S) q) fun u s' ⟨G', J, ht, q⟩ => ⟨_, remember I S J ht, q (lost_of I S J)⟩⟩
theorem pg_fr {t : TG} (h : PG X e t) : PG X e (gFr t) := ⟨fun pins s σ H v u Q I r ⟨G, S, q⟩ =>
  thn (h.run _ s σ G v u _ (forget I S) r q) fun _ s' ⟨σ', G', J, ht, q⟩ => ⟨σ', _, remember I S J ht, q (lost_of I S J)⟩⟩
end

/-! ### growing heaps: all but the tables of code objects stay, and these are tables still -/
class TabsC where
  T : List (Addr × Str)
  C : List (Addr × Addr)
def NT : HO → Prop
  | .tbl _ => False
  | _ => True
theorem Loose.nt {o : HO} (h : Loose o) : NT o := by
  cases o <;> first | trivial | exact h
section
variable [τ : TabsC]
structure SameT (F F' : Hp) : Prop where
  old : ∀ b o, F b = some o → NT o → F' b = some o
  tab : LamX.Tabs τ.T F → LamX.Tabs τ.T F'
  stay : ∀ b o, F b = some o → ∃ o', F' b = some o'
theorem SameT.refl (F : Hp) : SameT F F := ⟨fun _ _ h _ => h, fun t => t, fun _ o h => ⟨o, h⟩⟩
theorem SameT.trans {F G H : Hp} (a : SameT F G) (b : SameT G H) : SameT F H := ⟨fun c o h n => b.old c o (a.old c o h n) n, fun t => b.tab (a.tab t), fun c o h => let ⟨o', h'⟩ := a.stay c o h; b.stay c o' h'⟩
theorem _root_.L2.Same.t {F F' : Hp} (h : Same F F') : SameT F F' := ⟨fun b o e _ => h b o e, fun t => t.ext h, fun b o e => ⟨o, h b o e⟩⟩
theorem SameT.empty (B : Hp) : SameT (fun _ => none) B := ⟨(fun _ _ q => nomatch q), (fun t p hp => by
  obtain ⟨ps, h, _⟩ := t p hp
  cases h), (fun _ _ q => nomatch q)⟩
theorem SameT.seq {K : PySem.W.Frag} {F F' : Hp} {a : Addr} {xs : List V} (e : SameT F F') (h : SqL K F a xs) : SqL K F' a xs := by
  rcases h with (h | ⟨o, h⟩) | h
  · exact .inl (.inl (e.old _ _ h trivial))
  · exact .inl (.inr ⟨o, e.old _ _ h trivial⟩)
  · exact .inr h
end
end Fu

set_option maxHeartbeats 4000000
namespace Fu
open PySem PySem.Spec PyProof.Rows L2
variable [TabsC]

abbrev D := PyData

/-- a dict stands at a: what it holds is not told -/
def dictO (a : Addr) : HO := .ext (PySem.W.KitAt a "dict")
/-! ### a value, down to what is within, in a heap that stays -/
mutual
inductive Rp (K : PySem.W.Frag) (H : Hp) : V → PyData → Prop
  | non : Rp K H .non .none
  | bl (b : Bool) : Rp K H (.bl b) (.bool b)
  | int (i : Int) : Rp K H (.int i) (.int i)
  | str {x : Str} : x.length ≤ sizeLine → Rp K H (.str x) (.str x)
  | lst {a : Addr} {xs : List V} {ds : List PyData} : H a = some (.lst xs) → Rps K H xs ds → ds.length ≤ sizeLine → Rp K H (.ref a) (.list ds)
  | tup {a : Addr} {xs : List V} {ds : List PyData} : SqT K H a xs → Rps K H xs ds → ds.length ≤ sizeLine → Rp K H (.ref a) (.tuple ds)
  | dct {a : Addr} {kvs : List (PyData × PyData)} : ((∃ es, H a = some (.dK es)) ∨ (∃ es, H a = some (.dT es)) ∨ H a = some (dictO a)) → (kvs = [] → H a = some (.dK [])) → Rp K H (.ref a) (.dict kvs)
inductive Rps (K : PySem.W.Frag) (H : Hp) : List V → List PyData → Prop
  | nil : Rps K H [] []
  | cons {v : V} {vs : List V} {d : PyData} {ds : List PyData} : Rp K H v d → Rps K H vs ds → Rps K H (v :: vs) (d :: ds)
end
section
variable {K : PySem.W.Frag} {H H' : Hp}
theorem sqT_same {a : Addr} {xs : List V} (e : SameT H H') (h : SqT K H a xs) : SqT K H' a xs := by
  rcases h with (h | ⟨o, h⟩) | h
  · exact .inl (.inl (e.old _ _ h trivial))
  · exact .inl (.inr ⟨o, e.old _ _ h trivial⟩)
  · exact .inr h
mutual
theorem Rp.mono (e : SameT H H') : ∀ (d : PyData) (v : V), Rp K H v d → Rp K H' v d
  | .none, _, h => by cases h; exact .non
  | .bool b, _, h => by cases h; exact .bl b
  | .int i, _, h => by cases h; exact .int i
  | .str x, _, h => by
    cases h with
    | str hz => exact .str hz
  | .list ds, _, h => by
    cases h with
    | lst hs ha hz => exact .lst (e.old _ _ hs trivial) (Rps.mono e ds _ ha) hz
  | .tuple ds, _, h => by
    cases h with
    | tup hs ha hz => exact .tup (sqT_same e hs) (Rps.mono e ds _ ha) hz
  | .dict kvs, _, h => by
    cases h with
    | dct hd h0 =>
      refine .dct ?_ (fun z => e.old _ _ (h0 z) trivial)
      rcases hd with ⟨es, hd⟩ | ⟨es, hd⟩ | hd
      · exact .inl ⟨es, e.old _ _ hd trivial⟩
      · exact .inr (.inl ⟨es, e.old _ _ hd trivial⟩)
      · exact .inr (.inr (e.old _ _ hd trivial))
theorem Rps.mono (e : SameT H H') : ∀ (ds : List PyData) (vs : List V), Rps K H vs ds → Rps K H' vs ds
  | [], _, h => by cases h; exact .nil
  | d :: ds, _, h => by
    cases h with
    | cons h1 h2 => exact .cons (Rp.mono e d _ h1) (Rps.mono e ds _ h2)
end
mutual
theorem Rp.dp : ∀ (d : PyData) (v : V), d.canLay0 = true → Rp K H v d → Dp K H v d
  | .none, _, _, h => by cases h; exact .non
  | .bool b, _, _, h => by cases h; exact .bl b
  | .int i, _, _, h => by cases h; exact .int i
  | .str x, _, _, h => by cases h; exact .str x
  | .list ds, _, c, h => by
    cases h with
    | lst hs ha hz => exact .lst (SqL.of hs) (Rps.dp ds _ (by simpa [PyData.canLay0] using c) ha)
  | .tuple ds, _, c, h => by
    cases h with
    | tup hs ha hz => exact .tup hs (Rps.dp ds _ (by simpa [PyData.canLay0] using c) ha)
  | .dict kvs, _, c, _ => by simp [PyData.canLay0] at c
theorem Rps.dp : ∀ (ds : List PyData) (vs : List V), PyData.canLayAll0 ds = true → Rps K H vs ds → DpAll K H vs ds
  | [], _, _, h => by cases h; exact .nil
  | d :: ds, _, c, h => by
    have c' : d.canLay0 = true ∧ PyData.canLayAll0 ds = true := by simpa [PyData.canLayAll0] using c
    cases h with
    | cons h1 h2 => exact .cons (Rp.dp d _ c'.1 h1) (Rps.dp ds _ c'.2 h2)
end
theorem Rps.length : ∀ {ds : List PyData} {vs : List V}, Rps K H vs ds → vs.length = ds.length
  | [], _, h => by cases h; rfl
  | d :: ds, _, h => by
    cases h with
    | cons _ h2 => rw [List.length_cons, List.length_cons, Rps.length h2]
theorem Rps.get : ∀ {ds : List PyData} {vs : List V} {i : Nat} {d : PyData}, Rps K H vs ds → ds[i]? = some d → ∃ v, vs[i]? = some v ∧ Rp K H v d
  | [], _, _, _, _, e => by simp at e
  | _ :: _, _, 0, _, h, e => by
    cases h with
    | cons h1 h2 =>
      simp at e; subst e
      exact ⟨_, rfl, h1⟩
  | _ :: ds, _, i + 1, _, h, e => by
    cases h with
    | cons h1 h2 =>
      obtain ⟨v, e1, r⟩ := Rps.get (i := i) h2 (by simpa using e)
      exact ⟨v, by simpa using e1, r⟩
theorem Rps.append : ∀ {ds es : List PyData} {vs us : List V}, Rps K H vs ds → Rps K H us es → Rps K H (vs ++ us) (ds ++ es)
  | [], _, _, _, h, g => by cases h; exact g
  | _ :: _, _, _, _, h, g => by
    cases h with
    | cons h1 h2 => exact .cons h1 (h2.append g)
theorem Rps.take : ∀ {ds : List PyData} {vs : List V} (n : Nat), Rps K H vs ds → Rps K H (vs.take n) (ds.take n)
  | _, _, 0, _ => .nil
  | [], _, n + 1, h => by cases h; exact .nil
  | _ :: _, _, n + 1, h => by
    cases h with
    | cons h1 h2 => exact .cons h1 (h2.take n)
theorem Rps.drop : ∀ {ds : List PyData} {vs : List V} (n : Nat), Rps K H vs ds → Rps K H (vs.drop n) (ds.drop n)
  | _, _, 0, h => h
  | [], _, n + 1, h => by cases h; exact .nil
  | _ :: _, _, n + 1, h => by
    cases h with
    | cons h1 h2 => exact h2.drop n
theorem Rps.set : ∀ {ds : List PyData} {vs : List V} {v : V} {d : PyData} (i : Nat), Rp K H v d → Rps K H vs ds → Rps K H (vs.set i v) (ds.set i d)
  | [], _, _, _, _, _, h => by cases h; exact .nil
  | _ :: _, _, _, _, 0, r, h => by
    cases h with
    | cons h1 h2 => exact .cons r h2
  | _ :: _, _, _, _, i + 1, r, h => by
    cases h with
    | cons h1 h2 => exact .cons h1 (Rps.set i r h2)
theorem Rps.reverse {ds : List PyData} {vs : List V} (h : Rps K H vs ds) : Rps K H vs.reverse ds.reverse := by
  induction ds generalizing vs with
  | nil => cases h; exact .nil
  | cons d ds ih =>
    cases h with
    | cons h1 h2 =>
      rw [List.reverse_cons, List.reverse_cons]
      exact (ih h2).append (.cons h1 .nil)
theorem Rps.rep {ds : List PyData} {vs : List V} (h : Rps K H vs ds) : ∀ n : Nat, Rps K H (List.replicate n vs).flatten (List.replicate n ds).flatten
  | 0 => .nil
  | n + 1 => by
    rw [List.replicate_succ, List.replicate_succ, List.flatten_cons, List.flatten_cons]
    exact h.append (h.rep n)
theorem Rps.ints : ∀ ns : List Int, Rps K H (ns.map V.int) (ns.map PyData.int)
  | [] => .nil
  | n :: ns => .cons (.int n) (Rps.ints ns)
end

/-! ### the state: slots, and things that are still written (cells) -/
/-- an exception object of the class cls stands at a -/
def XO (cls : Value) (a : Addr) : HO := .ext fun h => ∃ (o : Obj) (fs : Array Value), h.get? a = some o ∧ Zc cls none o ∧ o.data = .fields fs
inductive R where
  | dat (d : PyData)
  | own (j : Nat)
  | scr (ns : List Int)
  | tup (rs : List R)
  | exc (c : Str)
inductive Cell where
  | lst (xs : List PyData)
  | lR (xs : List R)
  | dR (kvs : List (Key × R))
  | tR (kvs : List (List Key × R))
structure Sx where
  sl : List (Option R)
  os : List (Option Cell)
abbrev M (α : Type) := Sx → Option (α × Sx)

mutual
/-- a value of the state: data, a cell's place, the script, a tuple of such -/
inductive Rr (K : PySem.W.Frag) (A : List Addr) (F : Hp) : V → R → Prop
  | dat {v : V} {d : PyData} : Rp K F v d → Rr K A F v (.dat d)
  | own {j : Nat} {a : Addr} : A[j]? = some a → Rr K A F (.ref a) (.own j)
  | scr {a : Addr} {ns : List Int} : ns.length ≤ 63 → SqL K F a (ns.map V.int) → Rr K A F (.ref a) (.scr ns)
  | tup {a : Addr} {vs : List V} {rs : List R} : SqT K F a vs → Rrs K A F vs rs → rs.length ≤ sizeLine → Rr K A F (.ref a) (.tup rs)
  | exc {a D : Addr} {c : Str} : PySem.W.nsIn K mainGlobals c = some (some (.ref D)) → F a = some (XO (.ref D) a) → Rr K A F (.ref a) (.exc c)
inductive Rrs (K : PySem.W.Frag) (A : List Addr) (F : Hp) : List V → List R → Prop
  | nil : Rrs K A F [] []
  | cons {v : V} {vs : List V} {r : R} {rs : List R} : Rr K A F v r → Rrs K A F vs rs → Rrs K A F (v :: vs) (r :: rs)
end
theorem pre_at {α : Type} {A B : List α} {j : Nat} {a : α} (p : A <+: B) (h : A[j]? = some a) : B[j]? = some a := by
  obtain ⟨C, rfl⟩ := p
  rw [List.getElem?_append_left (List.getElem?_eq_some_iff.mp h).1]; exact h
section
variable {K : PySem.W.Frag} {A A' : List Addr} {F F' : Hp}
mutual
theorem Rr.mono (p : A <+: A') (e : SameT F F') : ∀ (r : R) (v : V), Rr K A F v r → Rr K A' F' v r
  | .dat d, _, h => by
    cases h with
    | dat h => exact .dat (Rp.mono e d _ h)
  | .own j, _, h => by
    cases h with
    | own h => exact .own (pre_at p h)
  | .scr ns, _, h => by
    cases h with
    | scr z h => exact .scr z (e.seq h)
  | .tup rs, _, h => by
    cases h with
    | tup s h z => exact .tup (sqT_same e s) (Rrs.mono p e rs _ h) z
  | .exc c, _, h => by
    cases h with
    | exc h1 h2 => exact .exc h1 (e.old _ _ h2 trivial)
theorem Rrs.mono (p : A <+: A') (e : SameT F F') : ∀ (rs : List R) (vs : List V), Rrs K A F vs rs → Rrs K A' F' vs rs
  | [], _, h => by cases h; exact .nil
  | r :: rs, _, h => by
    cases h with
    | cons h1 h2 => exact .cons (Rr.mono p e r _ h1) (Rrs.mono p e rs _ h2)
end
theorem Rrs.length : ∀ {rs : List R} {vs : List V}, Rrs K A F vs rs → vs.length = rs.length
  | [], _, h => by cases h; rfl
  | _ :: rs, _, h => by
    cases h with
    | cons _ h2 => rw [List.length_cons, List.length_cons, Rrs.length h2]
theorem Rrs.get : ∀ {rs : List R} {vs : List V} {i : Nat} {r : R}, Rrs K A F vs rs → rs[i]? = some r → ∃ v, vs[i]? = some v ∧ Rr K A F v r
  | [], _, _, _, _, e => by simp at e
  | _ :: _, _, 0, _, h, e => by
    cases h with
    | cons h1 h2 =>
      simp at e; subst e
      exact ⟨_, rfl, h1⟩
  | _ :: rs, _, i + 1, _, h, e => by
    cases h with
    | cons h1 h2 =>
      obtain ⟨v, e1, r⟩ := Rrs.get (i := i) h2 (by simpa using e)
      exact ⟨v, by simpa using e1, r⟩
theorem Rrs.append : ∀ {rs ss : List R} {vs us : List V}, Rrs K A F vs rs → Rrs K A F us ss → Rrs K A F (vs ++ us) (rs ++ ss)
  | [], _, _, _, h, g => by cases h; exact g
  | _ :: _, _, _, _, h, g => by
    cases h with
    | cons h1 h2 => exact .cons h1 (h2.append g)
theorem Rrs.take : ∀ {rs : List R} {vs : List V} (n : Nat), Rrs K A F vs rs → Rrs K A F (vs.take n) (rs.take n)
  | _, _, 0, _ => .nil
  | [], _, n + 1, h => by cases h; exact .nil
  | _ :: _, _, n + 1, h => by
    cases h with
    | cons h1 h2 => exact .cons h1 (h2.take n)
theorem Rrs.drop : ∀ {rs : List R} {vs : List V} (n : Nat), Rrs K A F vs rs → Rrs K A F (vs.drop n) (rs.drop n)
  | _, _, 0, h => h
  | [], _, n + 1, h => by cases h; exact .nil
  | _ :: _, _, n + 1, h => by
    cases h with
    | cons h1 h2 => exact h2.drop n
theorem Rrs.set : ∀ {rs : List R} {vs : List V} {v : V} {r : R} (i : Nat), Rr K A F v r → Rrs K A F vs rs → Rrs K A F (vs.set i v) (rs.set i r)
  | [], _, _, _, _, _, h => by cases h; exact .nil
  | _ :: _, _, _, _, 0, r, h => by
    cases h with
    | cons h1 h2 => exact .cons r h2
  | _ :: _, _, _, _, i + 1, r, h => by
    cases h with
    | cons h1 h2 => exact .cons h1 (Rrs.set i r h2)
end

abbrev PairR (K : PySem.W.Frag) (A : List Addr) (F : Hp) {κ : Type} (vs : List (κ × V)) (ks : List (κ × R)) : Prop := Paired (fun p q => p.1 = q.1 ∧ Rr K A F p.2 q.2) vs ks
def CellOk (K : PySem.W.Frag) (A : List Addr) (F H : Hp) (a : Addr) : Cell → Prop
  | .lst ds => ∃ vs, H a = some (.lst vs) ∧ Rps K F vs ds ∧ ds.length ≤ sizeLine
  | .lR rs => ∃ vs, H a = some (.lst vs) ∧ Rrs K A F vs rs ∧ rs.length ≤ sizeLine
  | .dR kvs => ∃ vs : List (Key × V), H a = some (.dK vs) ∧ PairR K A F vs kvs
  | .tR kvs => ∃ vs : List (List Key × V), H a = some (.dT vs) ∧ PairR K A F vs kvs
structure Ok (K : PySem.W.Frag) (A : List Addr) (F H : Hp) (S : Sx) (σ : L2.St) : Prop where
  sub : Sub F H
  len : S.sl.length = σ.length
  alen : S.os.length = A.length
  nd : A.Nodup
  rslot : ∀ (i : Nat) r, S.sl[i]? = some (some r) → ∃ v, σ[i]? = some (some v) ∧ Rr K A F v r
  cell : ∀ (j : Nat) c, S.os[j]? = some (some c) → ∃ a, A[j]? = some a ∧ F a = none ∧ CellOk K A F H a c
  trk : ∀ a ∈ A, ∃ o, H a = some o ∧ Loose o
  tab : LamX.Tabs TabsC.T F
section
variable {K : PySem.W.Frag} {A : List Addr} {F H : Hp} {S : Sx} {σ : L2.St}
theorem Ok.slot (k : Ok K A F H S σ) (i : Nat) (d : PyData) (h : S.sl[i]? = some (some (.dat d))) : ∃ v, σ[i]? = some (some v) ∧ Rp K F v d := by
  obtain ⟨v, e, r⟩ := k.rslot i _ h
  cases r with
  | dat r => exact ⟨v, e, r⟩
theorem Ok.oslot (k : Ok K A F H S σ) (i j : Nat) (h : S.sl[i]? = some (some (.own j))) : ∃ a, A[j]? = some a ∧ σ[i]? = some (some (.ref a)) := by
  obtain ⟨v, e, r⟩ := k.rslot i _ h
  cases r with
  | own r => exact ⟨_, r, e⟩
theorem Ok.sslot (k : Ok K A F H S σ) (i : Nat) (ns : List Int) (h : S.sl[i]? = some (some (.scr ns))) : ns.length ≤ 63 ∧ ∃ a, σ[i]? = some (some (.ref a)) ∧ SqL K F a (ns.map V.int) := by
  obtain ⟨v, e, r⟩ := k.rslot i _ h
  cases r with
  | scr z r => exact ⟨z, _, e, r⟩
end

theorem paired_mono {κ : Type} {K : PySem.W.Frag} {A A' : List Addr} {F F' : Hp} (p : A <+: A') (e : SameT F F') {vs : List (κ × V)} {ks : List (κ × R)} (h : PairR K A F vs ks) : PairR K A' F' vs ks :=
  Paired.mapP h fun _ _ z => ⟨z.1, z.2.mono p e _ _⟩
/-- the cell at a stands over a greater heap -/
theorem CellOk.mono {K : PySem.W.Frag} {A A' : List Addr} {F F' H H' : Hp} {a : Addr} {c : Cell} (p : A <+: A') (e : SameT F F') (ha : ∀ o, H a = some o → H' a = some o) (h : CellOk K A F H a c) : CellOk K A' F' H' a c := by
  cases c with
  | lst ds => obtain ⟨vs, h1, h2, hz⟩ := h; exact ⟨vs, ha _ h1, Rps.mono e _ _ h2, hz⟩
  | lR ds => obtain ⟨vs, h1, h2, hz⟩ := h; exact ⟨vs, ha _ h1, Rrs.mono p e _ _ h2, hz⟩
  | dR ds => obtain ⟨vs, h1, h2⟩ := h; exact ⟨vs, ha _ h1, paired_mono p e h2⟩
  | tR ds => obtain ⟨vs, h1, h2⟩ := h; exact ⟨vs, ha _ h1, paired_mono p e h2⟩

theorem same_upd {H : Hp} {p : Addr} {o : HO} (h : H p = none) : SameT H (upd H p o) := L2.Same.t fun b x e => by
  rw [upd_ne (ne_of_none e h)]
  exact e
section
variable {K : PySem.W.Frag} {A : List Addr} {F F' H H' : Hp} {S : Sx} {σ : L2.St}
/-- both heaps grow -/
theorem Ok.grow (k : Ok K A F H S σ) (sub : Sub F' H') (e : SameT F F') (eh : ∀ a ∈ A, ∀ o, H a = some o → H' a = some o) (hf : ∀ a ∈ A, F a = none → F' a = none) : Ok K A F' H' S σ where
  sub := sub
  len := k.len
  alen := k.alen
  nd := k.nd
  rslot := fun i r h => by obtain ⟨v, e1, q⟩ := k.rslot i r h; exact ⟨v, e1, q.mono (List.prefix_refl _) e _ _⟩
  cell := fun j c h => by
    obtain ⟨a, e1, f, c⟩ := k.cell j c h
    have hm : a ∈ A := List.mem_of_getElem? e1
    exact ⟨a, e1, hf a hm f, c.mono (List.prefix_refl _) e (eh a hm)⟩
  trk := fun a h => by obtain ⟨o, q, l⟩ := k.trk a h; exact ⟨o, eh a h o q, l⟩
  tab := e.tab k.tab
/-- a new object, known for good -/
theorem Ok.laid (k : Ok K A F H S σ) {p : Addr} {o : HO} (hp : H p = none) : Ok K A (upd F p o) (upd H p o) S σ := by
  have fp : F p = none := k.sub.none hp
  refine k.grow ⟨fun b u q => ?_, fun b u q n => ?_⟩ (same_upd fp) (fun a ha u q => by rw [upd_ne (ne_of_none q hp)]; exact q) fun a ha q => ?_
  · by_cases hb : b = p
    · subst hb; rw [upd_same] at q ⊢; exact q
    · rw [upd_ne hb] at q ⊢; exact k.sub.same b u q
  · by_cases hb : b = p
    · subst hb; rw [upd_same] at n; cases n
    · rw [upd_ne hb] at q n; exact k.sub.loose b u q n
  · obtain ⟨u, hu, _⟩ := k.trk a ha
    rw [upd_ne (ne_of_none hu hp)]; exact q
theorem sub_cell {G H : Hp} (s : Sub G H) {a : Addr} {o : HO} (g : G a = none) (l : Loose o) : Sub G (upd H a o) := ⟨fun b u q => by
    rw [upd_ne (ne_of_none q g)]; exact s.same b u q, fun b u q n => by
    by_cases hb : b = a
    · subst hb; rw [upd_same] at q; cases q; exact l
    · rw [upd_ne hb] at q; exact s.loose b u q n⟩
/-- a new cell -/
theorem Ok.cellNew (k : Ok K A F H S σ) {p : Addr} {o : HO} {c : Cell} (hp : H p = none) (l : Loose o) (hc : CellOk K (A ++ [p]) F (upd H p o) p c) : Ok K (A ++ [p]) F (upd H p o) { S with os := S.os ++ [some c] } σ := by
  have fp : F p = none := k.sub.none hp
  have np : p ∉ A := fun z => by obtain ⟨u, hu, _⟩ := k.trk p z; rw [hp] at hu; cases hu
  have pp : A <+: A ++ [p] := List.prefix_append _ _
  refine ⟨sub_cell k.sub fp l, k.len, by simp [k.alen], List.nodup_append.mpr ⟨k.nd, by simp, fun a ha b hb => by simp at hb; subst hb; intro z; subst z; exact np ha⟩, fun i r h => ?_, fun j c' h => ?_, fun a h => ?_, k.tab⟩
  · obtain ⟨v, e1, q⟩ := k.rslot i r h
    exact ⟨v, e1, q.mono pp (SameT.refl F) _ _⟩
  · by_cases hj : j < S.os.length
    · have h' : S.os[j]? = some (some c') := by
        have := h
        simp only at this
        rw [List.getElem?_append_left hj] at this; exact this
      obtain ⟨a, e1, f, q⟩ := k.cell j c' h'
      exact ⟨a, pre_at pp e1, f, q.mono pp (SameT.refl F) fun u hu => by rw [upd_ne (ne_of_none hu hp)]; exact hu⟩
    · have e : j = S.os.length := by
        have := (List.getElem?_eq_some_iff.mp h).1
        simp at this
        omega
      subst e
      have h' : some c = some c' := by simpa using h
      cases h'
      exact ⟨p, by rw [k.alen]; simp, fp, hc⟩
  · rcases List.mem_append.mp h with h | h
    · obtain ⟨u, hu, lu⟩ := k.trk a h
      exact ⟨u, by rw [upd_ne (ne_of_none hu hp)]; exact hu, lu⟩
    · simp at h; subst h; exact ⟨o, upd_same, l⟩
theorem idx_nodup {α : Type} {A : List α} (nd : A.Nodup) {i j : Nat} {a : α} (h1 : A[i]? = some a) (h2 : A[j]? = some a) : i = j := by
  obtain ⟨l1, e1⟩ := List.getElem?_eq_some_iff.mp h1
  obtain ⟨l2, e2⟩ := List.getElem?_eq_some_iff.mp h2
  exact (List.getElem_inj nd).mp (e1.trans e2.symm)
/-- a cell written -/
theorem Ok.cellSet (k : Ok K A F H S σ) {j : Nat} {a : Addr} {o : HO} {c c' : Cell} (hj : S.os[j]? = some (some c)) (ha : A[j]? = some a) (l : Loose o) (hc : CellOk K A F (upd H a o) a c') :
    Ok K A F (upd H a o) { S with os := S.os.set j (some c') } σ := by
  obtain ⟨a', e1, fa, _⟩ := k.cell j c hj
  rw [ha] at e1; cases e1
  refine ⟨sub_cell k.sub fa l, k.len, by simp [k.alen], k.nd, k.rslot, fun i d h => ?_, fun b h => ?_, k.tab⟩
  · by_cases hi : j = i
    · subst hi
      have hlt := (List.getElem?_eq_some_iff.mp hj).1
      rw [List.getElem?_set_self hlt] at h
      cases h
      exact ⟨a, ha, fa, hc⟩
    · rw [List.getElem?_set_ne hi] at h
      obtain ⟨b, e1, f, q⟩ := k.cell i d h
      have hb : b ≠ a := fun z => hi (idx_nodup k.nd ha (z ▸ e1))
      exact ⟨b, e1, f, q.mono (List.prefix_refl _) (SameT.refl F) fun u hu => by rw [upd_ne hb]; exact hu⟩
  · by_cases hb : b = a
    · exact ⟨o, by rw [hb, upd_same], l⟩
    · obtain ⟨u, hu, lu⟩ := k.trk b h
      exact ⟨u, by rw [upd_ne hb]; exact hu, lu⟩
/-- a cell is written no more: its object is known for good -/
theorem Ok.sealO (k : Ok K A F H S σ) {j : Nat} {a : Addr} {o : HO} {c : Cell} (hj : S.os[j]? = some (some c)) (ha : A[j]? = some a) (ho : H a = some o) :
    SameT F (upd F a o) ∧ Ok K A (upd F a o) H { S with os := S.os.set j none } σ := by
  obtain ⟨a', e1, fa, _⟩ := k.cell j c hj
  rw [ha] at e1; cases e1
  have sm : SameT F (upd F a o) := same_upd fa
  refine ⟨sm, ⟨⟨fun b u q => ?_, fun b u q n => ?_⟩, k.len, by simp [k.alen], k.nd, fun i r h => ?_, fun i d h => ?_, k.trk, sm.tab k.tab⟩⟩
  · by_cases hb : b = a
    · subst hb; rw [upd_same] at q; cases q; exact ho
    · rw [upd_ne hb] at q; exact k.sub.same b u q
  · by_cases hb : b = a
    · subst hb; rw [upd_same] at n; cases n
    · rw [upd_ne hb] at n; exact k.sub.loose b u q n
  · obtain ⟨v, e1, q⟩ := k.rslot i r h
    exact ⟨v, e1, q.mono (List.prefix_refl _) sm _ _⟩
  · by_cases hi : j = i
    · subst hi
      have hlt := (List.getElem?_eq_some_iff.mp hj).1
      rw [List.getElem?_set_self hlt] at h
      cases h
    · rw [List.getElem?_set_ne hi] at h
      obtain ⟨b, e1, f, q⟩ := k.cell i d h
      have hb : b ≠ a := fun z => hi (idx_nodup k.nd ha (z ▸ e1))
      exact ⟨b, e1, by rw [upd_ne hb]; exact f, q.mono (List.prefix_refl _) sm fun u hu => hu⟩
/-- .. a list of data -/
theorem Ok.seal (k : Ok K A F H S σ) {j : Nat} {ds : List PyData} (hj : S.os[j]? = some (some (.lst ds))) :
    ∃ a F', A[j]? = some a ∧ SameT F F' ∧ Rp K F' (.ref a) (.list ds) ∧ Ok K A F' H { S with os := S.os.set j none } σ ∧ ∀ b, b ≠ a → F' b = F b := by
  obtain ⟨a, ha, fa, vs, hv, r, hz⟩ := k.cell j _ hj
  obtain ⟨sm, k'⟩ := k.sealO hj ha hv
  exact ⟨a, _, ha, sm, .lst upd_same (Rps.mono sm _ _ r) hz, k', fun b hb => upd_ne hb⟩
theorem Ok.setR (k : Ok K A F H S σ) {i : Nat} {r : R} {v : V} (q : Rr K A F v r) : Ok K A F H { S with sl := S.sl.set i (some r) } (σ.set i (some v)) := by
  refine ⟨k.sub, by simp [k.len], k.alen, k.nd, fun n e h => ?_, k.cell, k.trk, k.tab⟩
  by_cases hi : i = n
  · subst hi
    have hlt : i < S.sl.length := by
      have := (List.getElem?_eq_some_iff.mp h).1
      simpa using this
    rw [List.getElem?_set_self hlt] at h
    cases h
    exact ⟨v, by rw [List.getElem?_set_self (by rw [← k.len]; exact hlt)], q⟩
  · rw [List.getElem?_set_ne hi] at h ⊢
    exact k.rslot n e h
theorem Ok.setDat (k : Ok K A F H S σ) {i : Nat} {d : PyData} {v : V} (r : Rp K F v d) : Ok K A F H { S with sl := S.sl.set i (some (.dat d)) } (σ.set i (some v)) := k.setR (.dat r)
theorem Ok.setOwn (k : Ok K A F H S σ) {i j : Nat} {a : Addr} (ha : A[j]? = some a) : Ok K A F H { S with sl := S.sl.set i (some (.own j)) } (σ.set i (some (.ref a))) := k.setR (.own ha)
theorem set_at {α : Type} {l : List (Option α)} {i : Nat} {v : α} (hv : l[i]? = some (some v)) : l.set i (some v) = l := by
  apply List.ext_getElem?
  intro n
  by_cases hi : i = n
  · subst hi
    rw [List.getElem?_set_self (List.getElem?_eq_some_iff.mp hv).1, hv]
  · rw [List.getElem?_set_ne hi]
/-- the slot's thing told otherwise, the value as it was -/
theorem Ok.rAt (k : Ok K A F H S σ) {i : Nat} {r : R} {v : V} (hv : σ[i]? = some (some v)) (q : Rr K A F v r) : Ok K A F H { S with sl := S.sl.set i (some r) } σ := by
  have := k.setR (i := i) q
  rwa [set_at hv] at this
theorem Ok.datAt (k : Ok K A F H S σ) {i : Nat} {d : PyData} {v : V} (hv : σ[i]? = some (some v)) (r : Rp K F v d) : Ok K A F H { S with sl := S.sl.set i (some (.dat d)) } σ := k.rAt hv (.dat r)
end
end Fu

set_option maxHeartbeats 4000000
namespace Fu
open PySem PySem.Spec PyProof.Rows L2
variable [TabsC]

theorem bind_inv {α β : Type} {x : Option α} {f : α → Option β} {b : β} (h : x.bind f = some b) : ∃ a, x = some a ∧ f a = some b := by
  cases x with
  | none => cases h
  | some a => exact ⟨a, rfl, h⟩

/-! ### the judgements: an expression's reading meets a function on states -/
def RdE (K : PySem.W.Frag) (t : TE) (g : M D) : Prop := ∀ A F H S σ d S' (Q : VK), Ok K A F H S σ → g S = some (d, S') →
  (∀ A' F' H' v, A <+: A' → SameT F F' → Ok K A' F' H' S' σ → Rp K F' v d → Q v H') → t σ H Q
def RdT (K : PySem.W.Frag) (t : TT) (g : M Bool) : Prop := ∀ A F H S σ b S' (Q : Bool → Hp → Prop), Ok K A F H S σ → g S = some (b, S') →
  (∀ A' F' H', A <+: A' → SameT F F' → Ok K A' F' H' S' σ → Q b H') → t σ H Q
def RdA (K : PySem.W.Frag) (t : TA) (g : M (List D)) : Prop := ∀ A F H S σ ds S' (Q : List V → Hp → Prop), Ok K A F H S σ → g S = some (ds, S') →
  (∀ A' F' H' vs, A <+: A' → SameT F F' → Ok K A' F' H' S' σ → Rps K F' vs ds → Q vs H') → t σ H Q
structure GE (X : Cx) (e : Expr) (g : M D) : Prop where
  ex : ∃ t, PE X e t ∧ RdE X.K t g
structure GT (X : Cx) (e : Expr) (g : M Bool) : Prop where
  ex : ∃ t, PT X e t ∧ RdT X.K t g
structure GW (X : Cx) (e : Expr) (g : M Bool) : Prop where
  ex : ∃ t, PW X e t ∧ RdT X.K t g
structure GA (X : Cx) (es : List Expr) (g : M (List D)) : Prop where
  ex : ∃ t, PA X es t ∧ RdA X.K t g

/-! ### names and constants -/
def gVar (i : Nat) : M D := fun S => match S.sl[i]? with
  | some (some (.dat d)) => some (d, S)
  | some (some (.own j)) => match S.os[j]? with
    | some (some (.lst ds)) => some (.list ds, ⟨S.sl.set i (some (.dat (.list ds))), S.os.set j none⟩)
    | _ => none
  | _ => none
def gC (d : D) : M D := fun S => some (d, S)
section
variable {X : Cx} {pos : Pos}
theorem rd_var {K : PySem.W.Frag} (i : Nat) : RdE K (tVar i) (gVar i) := by
  intro A F H S σ d S' Q k h post
  unfold gVar at h
  cases e : S.sl[i]? with
  | none => rw [e] at h; cases h
  | some r =>
    cases r with
    | none => rw [e] at h; cases h
    | some r =>
      cases r with
      | dat d' =>
        rw [e] at h; cases h
        obtain ⟨v, ev, r⟩ := k.slot i _ e
        exact ⟨v, ev, post A F H v (List.prefix_refl _) (SameT.refl F) k r⟩
      | scr ns => rw [e] at h; cases h
      | tup rs => rw [e] at h; cases h
      | exc c => rw [e] at h; cases h
      | own j =>
        rw [e] at h
        simp only at h
        cases e2 : S.os[j]? with
        | none => rw [e2] at h; cases h
        | some c =>
          cases c with
          | none => rw [e2] at h; cases h
          | some c =>
            cases c with
            | lst ds =>
              rw [e2] at h; cases h
              obtain ⟨a, ha, ev⟩ := k.oslot i j e
              obtain ⟨a', F', ha', sm, r, k', _⟩ := k.seal e2
              rw [ha] at ha'; cases ha'
              exact ⟨_, ev, post A F' H _ (List.prefix_refl _) sm (k'.datAt ev r) r⟩
            | lR _ => rw [e2] at h; cases h
            | dR _ => rw [e2] at h; cases h
            | tR _ => rw [e2] at h; cases h
theorem e_var (i : Nat) {x : Str} (hN : X.N[i]? = some x := by rfl) (hv : Vis X.env.scope x := by first | exact Or.inl rfl | exact Or.inr (Or.inl rfl) | exact Or.inr (Or.inr rfl)) (hd : (x == ("__debug__" : Str)) = false := by decide)
    (hcd : (x == ("__classdict__" : Str)) = false := by decide) : GE X (.Name x pos) (gVar i) := ⟨_, pe_var hN hv hd hcd, rd_var i⟩
theorem rd_c {K : PySem.W.Frag} {v : V} {d : D} (r : ∀ F, Rp K F v d) : RdE K (tC v) (gC d) := by
  intro A F H S σ d' S' Q k h post
  cases h
  exact post A F H v (List.prefix_refl _) (SameT.refl F) k (r F)
theorem e_int {i : Int} {j} : GE X (.Constant (.int i) j pos) (gC (.int i)) := ⟨_, pe_int, rd_c fun _ => .int i⟩
theorem e_bl {b : Bool} {j} : GE X (.Constant (.bool b) j pos) (gC (.bool b)) := ⟨_, pe_bl, rd_c fun _ => .bl b⟩
theorem e_str {x : Str} {j} (hz : x.length ≤ sizeLine := by decide) : GE X (.Constant (.str x) j pos) (gC (.str x)) := ⟨_, pe_str, rd_c fun _ => .str hz⟩
/-- a module's constant -/
theorem e_gint {x : Str} {i : Int} {t : Tok} (hm : X.mg x = some (.int i t)) (hg : Gl X x := by rfl) (hd : (x == ("__debug__" : Str)) = false := by decide) : GE X (.Name x pos) (gC (.int i)) := ⟨_, pe_glob (v := .int i) hg hm ⟨t, rfl⟩ hd, rd_c fun _ => .int i⟩
theorem e_gstr {x z : Str} {t : Tok} (hm : X.mg x = some (.str z t)) (hg : Gl X x := by rfl) (hz : z.length ≤ sizeLine := by decide) (hd : (x == ("__debug__" : Str)) = false := by decide) : GE X (.Name x pos) (gC (.str z)) := ⟨_, pe_glob (v := .str z) hg hm ⟨t, rfl⟩ hd, rd_c fun _ => .str hz⟩
end

/-! ### operators by values -/
def RdOp (K : PySem.W.Frag) (r : R2) (f : D → D → Option D) : Prop := ∀ A F H S σ x y d e z Q, Ok K A F H S σ → Rp K F x d → Rp K F y e → f d e = some z →
  (∀ F' H' v, SameT F F' → Ok K A F' H' S σ → Rp K F' v z → Q v H') → r x y H Q
def gBin (f : D → D → Option D) (ga gb : M D) : M D := fun S => (ga S).bind fun p => (gb p.2).bind fun q => (f p.1 q.1).bind fun z => some (z, q.2)
section
variable {X : Cx} {pos : Pos} {a b : Expr} {ga gb : M D}
theorem rd_op {K : PySem.W.Frag} {r : R2} {f : D → D → Option D} {ta tb : TE} (hf : RdOp K r f) (ra : RdE K ta ga) (rb : RdE K tb gb) : RdE K (tOp r ta tb) (gBin f ga gb) := by
  intro A F H S σ d S' Q k h post
  obtain ⟨⟨x, S1⟩, h1, h⟩ := bind_inv h
  obtain ⟨⟨y, S2⟩, h2, h⟩ := bind_inv h
  obtain ⟨z, h3, h⟩ := bind_inv h
  cases h
  refine ra A F H S σ x S1 _ k h1 fun A1 F1 H1 v1 p1 s1 k1 r1 => rb A1 F1 H1 S1 σ y S2 _ k1 h2 fun A2 F2 H2 v2 p2 s2 k2 r2 => ?_
  exact hf A2 F2 H2 _ σ v1 v2 x y _ Q k2 (r1.mono s2 _ _) r2 h3 fun F3 H3 v s3 k3 r3 => post A2 F3 H3 v (p1.trans p2) (s1.trans (s2.trans s3)) k3 r3
theorem e_op {op : Operator} {r : R2} {f : D → D → Option D} (ho : OpR X (binaryOp op) r) (hf : RdOp X.K r f) (ha : GE X a ga) (hb : GE X b gb) : GE X (.BinOp a op b pos) (gBin f ga gb) :=
  let ⟨_, pa, ra⟩ := ha.ex; let ⟨_, pb, rb⟩ := hb.ex; ⟨_, pe_op ho pa pb, rd_op hf ra rb⟩
theorem e_cmpR {op : CmpOp} {r : R2} {f : D → D → Option D} (ho : OpR X (compareOp op) r) (hf : RdOp X.K r f) (hm : behindInMarks op b = false) (ha : GE X a ga) (hb : GE X b gb) : GE X (.Compare a [op] [b] pos) (gBin f ga gb) :=
  let ⟨_, pa, ra⟩ := ha.ex; let ⟨_, pb, rb⟩ := hb.ex; ⟨_, pe_cmpR ho pa pb hm, rd_op hf ra rb⟩
def gB (g : M D) : M Bool := fun S => (g S).bind fun p => match p.1 with
  | .bool b => some (b, p.2)
  | _ => none
theorem rd_test {K : PySem.W.Frag} {t : TE} {g : M D} (h : RdE K t g) : RdT K (tB t) (gB g) := by
  intro A F H S σ b S' Q k e post
  obtain ⟨⟨d, S1⟩, h1, e⟩ := bind_inv e
  refine h A F H S σ d S1 _ k h1 fun A1 F1 H1 v p1 s1 k1 r1 => ?_
  cases d <;> simp only at e <;> cases e
  cases r1
  exact ⟨_, rfl, post A1 F1 H1 p1 s1 k1⟩
theorem t_cmpR {op : CmpOp} {r : R2} {f : D → D → Option D} (ho : OpR X (compareOp op) r) (hf : RdOp X.K r f) (hm : behindInMarks op b = false) (ha : GE X a ga) (hb : GE X b gb) : GT X (.Compare a [op] [b] pos) (gB (gBin f ga gb)) :=
  let ⟨_, pa, ra⟩ := ha.ex; let ⟨_, pb, rb⟩ := hb.ex; ⟨_, pt_cmpR ho pa pb hm, rd_test (rd_op hf ra rb)⟩
theorem t_val {e : Expr} {g : M D} (h : GE X e g) (he : ∀ whole, isTrue e X.env whole = (do let v ← whole; standAt e.pos; holding [v] (truthy v)) := by intro _; rfl) : GT X e (gB g) :=
  let ⟨_, pe, re⟩ := h.ex; ⟨_, pt_val pe he, rd_test re⟩

/-! ### the operators -/
def dAdd : D → D → Option D
  | .int i, .int j => some (.int (i + j))
  | .str x, .str y => if x.length + y.length ≤ sizeLine then some (.str (x ++ y)) else none
  | .list xs, .list ys => if xs.length + ys.length ≤ sizeLine then some (.list (xs ++ ys)) else none
  | .tuple xs, .tuple ys => if xs.length + ys.length ≤ sizeLine then some (.tuple (xs ++ ys)) else none
  | _, _ => none

end

section
variable {K : PySem.W.Frag}
theorem rps_upd {F : Hp} {p : Addr} {o : HO} {vs : List V} {ds : List D} (h : F p = none) (r : Rps K F vs ds) : Rps K (upd F p o) vs ds := Rps.mono (same_upd h) _ _ r
/-- a new list, a new tuple, known for good -/
theorem Ok.newList {A : List Addr} {F H : Hp} {S : Sx} {σ : L2.St} (k : Ok K A F H S σ) {p : Addr} {vs : List V} {ds : List D} (hp : H p = none) (r : Rps K F vs ds) (hz : ds.length ≤ sizeLine) :
    SameT F (upd F p (.lst vs)) ∧ Ok K A (upd F p (.lst vs)) (upd H p (.lst vs)) S σ ∧ Rp K (upd F p (.lst vs)) (.ref p) (.list ds) :=
  have fp := k.sub.none hp
  ⟨same_upd fp, k.laid hp, .lst upd_same (rps_upd fp r) hz⟩
theorem Ok.newTup {A : List Addr} {F H : Hp} {S : Sx} {σ : L2.St} (k : Ok K A F H S σ) {p : Addr} {vs : List V} {ds : List D} (hp : H p = none) (r : Rps K F vs ds) (hz : ds.length ≤ sizeLine) :
    SameT F (upd F p (.tup vs)) ∧ Ok K A (upd F p (.tup vs)) (upd H p (.tup vs)) S σ ∧ Rp K (upd F p (.tup vs)) (.ref p) (.tuple ds) :=
  have fp := k.sub.none hp
  ⟨same_upd fp, k.laid hp, .tup (.inl (.inl upd_same)) (rps_upd fp r) hz⟩
theorem rp_list_inv {F : Hp} {v : V} {ds : List D} (h : Rp K F v (.list ds)) : ∃ a xs, v = .ref a ∧ F a = some (.lst xs) ∧ Rps K F xs ds ∧ ds.length ≤ sizeLine := by
  cases h with
  | lst h1 h2 h3 => exact ⟨_, _, rfl, h1, h2, h3⟩
theorem rp_tup_inv {F : Hp} {v : V} {ds : List D} (h : Rp K F v (.tuple ds)) : ∃ a xs, v = .ref a ∧ SqT K F a xs ∧ Rps K F xs ds ∧ ds.length ≤ sizeLine := by
  cases h with
  | tup h1 h2 h3 => exact ⟨_, _, rfl, h1, h2, h3⟩
theorem rp_str_inv {F : Hp} {v : V} {x : Str} (h : Rp K F v (.str x)) : v = .str x ∧ x.length ≤ sizeLine := by
  cases h with
  | str h => exact ⟨rfl, h⟩
theorem rp_int_inv {F : Hp} {v : V} {i : Int} (h : Rp K F v (.int i)) : v = .int i := by cases h; rfl
theorem rp_bool_inv {F : Hp} {v : V} {i : Bool} (h : Rp K F v (.bool i)) : v = .bl i := by cases h; rfl

def rAddAny (K : PySem.W.Frag) : R2 := fun x y H Q => (rI0 (fun i j => .int (i + j)) x y H Q) ∨ (∃ i j, x = .str i ∧ y = .str j ∧ i.length + j.length ≤ sizeLine ∧ Q (.str (i ++ j)) H) ∨ rCat x y H Q ∨ rCatA K x y H Q
theorem op_addAny {X : Cx} : OpR X (binaryOp .Add) (rAddAny X.K) := OpR.or op_add (OpR.or op_add_str (OpR.or op_cat op_catA))
theorem str_app_len (x y : Str) : (x ++ y).length = x.length + y.length := by
  show (Str.append x y).length = _
  simp [Str.append, Str.length]
theorem rd_add : RdOp K (rAddAny K) dAdd := by
  intro A F H S σ x y d e z Q k rx ry h post
  have id1 : ∀ v, Rp K F v z → Q v H := fun v r => post F H v (SameT.refl F) k r
  cases d <;> cases e <;> simp only [dAdd] at h <;> try cases h
  · cases rp_int_inv rx; cases rp_int_inv ry
    exact .inl ⟨_, _, rfl, rfl, id1 _ (.int _)⟩
  · split at h
    · rename_i hz
      cases h
      obtain ⟨rfl, _⟩ := rp_str_inv rx
      obtain ⟨rfl, _⟩ := rp_str_inv ry
      exact .inr (.inl ⟨_, _, rfl, rfl, hz, id1 _ (.str (by rw [str_app_len]; exact hz))⟩)
    · cases h
  · split at h
    · rename_i hz
      cases h
      obtain ⟨a, xs, rfl, h1, h2, _⟩ := rp_list_inv rx
      obtain ⟨b, ys, rfl, g1, g2, _⟩ := rp_list_inv ry
      refine .inr (.inr (.inl ⟨a, b, xs, ys, rfl, rfl, k.sub.same _ _ h1, k.sub.same _ _ g1, by rw [h2.length, g2.length]; exact hz, fun p hp => ?_⟩))
      obtain ⟨s1, k1, r1⟩ := k.newList hp (h2.append g2) (by rw [List.length_append]; exact hz)
      exact post _ _ _ s1 k1 r1
    · cases h
  · split at h
    · rename_i hz
      cases h
      obtain ⟨a, xs, rfl, h1, h2, _⟩ := rp_tup_inv rx
      obtain ⟨b, ys, rfl, g1, g2, _⟩ := rp_tup_inv ry
      refine .inr (.inr (.inr ⟨a, b, xs, ys, rfl, rfl, sqT_same k.sub.same.t h1, sqT_same k.sub.same.t g1, by rw [h2.length, g2.length]; exact hz, fun e => ?_, fun e1 e2 => ?_, fun e1 e2 p hp => ?_⟩))
      · subst e
        cases h2
        exact id1 _ (by simpa using ry)
      · subst e2
        cases g2
        exact id1 _ (by simpa using rx)
      · obtain ⟨s1, k1, r1⟩ := k.newTup hp (h2.append g2) (by rw [List.length_append]; exact hz)
        exact post _ _ _ s1 k1 r1
    · cases h

/-! ### other operators on ints -/
def dSub : D → D → Option D
  | .int i, .int j => some (.int (i - j))
  | _, _ => none
theorem rd_sub : RdOp K (rI0 fun i j => .int (i - j)) dSub := by
  intro A F H S σ x y d e z Q k rx ry h post
  cases d <;> cases e <;> simp only [dSub] at h <;> cases h
  cases rp_int_inv rx; cases rp_int_inv ry
  exact ⟨_, _, rfl, rfl, post F H _ (SameT.refl F) k (.int _)⟩
end
end Fu

set_option maxHeartbeats 4000000
namespace Fu
open PySem PySem.Spec PyProof.Rows L2
variable [TabsC]
section
variable {K : PySem.W.Frag}
/-! ### products, quotients, rests, powers -/
instance (i j : Int) : Decidable (CMulW i j) := inferInstanceAs (Decidable (_ < _))
instance (i j : Int) : Decidable (CDivW i j) := inferInstanceAs (Decidable (_ ∧ _))
instance (i j : Int) : Decidable (CPow i j) := inferInstanceAs (Decidable (_ ∧ _ ∧ _))
def dMul : D → D → Option D
  | .int i, .int j => if CMulW i j then some (.int (i * j)) else none
  | .list xs, .int k => if -(2 ^ 63) ≤ k ∧ k < 2 ^ 63 ∧ xs.length * k.toNat ≤ sizeLine then some (.list (List.replicate k.toNat xs).flatten) else none
  | _, _ => none
def rMulAny : R2 := fun x y H Q => rI CMulW (fun i j => .int (i * j)) x y H Q ∨ rRep x y H Q
theorem op_mulAny {X : Cx} : OpR X (binaryOp .Mult) rMulAny := OpR.or op_mulW op_rep
theorem rd_mul : RdOp K rMulAny dMul := by
  intro A F H S σ x y d e z Q k rx ry h post
  cases d <;> cases e <;> simp only [dMul] at h <;> try cases h
  · split at h
    · rename_i hz
      cases h
      cases rp_int_inv rx; cases rp_int_inv ry
      exact .inl ⟨_, _, rfl, rfl, hz, post F H _ (SameT.refl F) k (.int _)⟩
    · cases h
  · split at h
    · rename_i hz
      cases h
      obtain ⟨a, xs, rfl, h1, h2, _⟩ := rp_list_inv rx
      cases rp_int_inv ry
      refine .inr ⟨a, _, xs, rfl, rfl, k.sub.same _ _ h1, hz.1, hz.2.1, by rw [h2.length]; exact hz.2.2, fun p hp => ?_⟩
      obtain ⟨s1, k1, r1⟩ := k.newList hp (h2.rep _) (by rw [PyProof.Rows.lm_len_rep_flat, Nat.mul_comm]; exact hz.2.2)
      exact post _ _ _ s1 k1 r1
    · cases h
def dDiv : D → D → Option D
  | .int i, .int j => if CDivW i j then some (.int (i / j)) else none
  | _, _ => none
def dMod : D → D → Option D
  | .int i, .int j => if 0 < j then some (.int (i % j)) else none
  | _, _ => none
def dPow : D → D → Option D
  | .int i, .int j => if CPow i j then some (.int (i ^ j.toNat)) else none
  | _, _ => none
theorem rd_ii {C : Int → Int → Prop} [∀ i j, Decidable (C i j)] {f : Int → Int → Int} {g : D → D → Option D} (hg : ∀ d e z, g d e = some z → ∃ i j, d = .int i ∧ e = .int j ∧ C i j ∧ z = .int (f i j)) : RdOp K (rI C fun i j => .int (f i j)) g := by
  intro A F H S σ x y d e z Q k rx ry h post
  obtain ⟨i, j, rfl, rfl, c, rfl⟩ := hg d e z h
  cases rp_int_inv rx; cases rp_int_inv ry
  exact ⟨_, _, rfl, rfl, c, post F H _ (SameT.refl F) k (.int _)⟩
theorem rd_div : RdOp K (rI CDivW fun i j => .int (i / j)) dDiv := rd_ii fun d e z h => by
  cases d <;> cases e <;> simp only [dDiv] at h <;> try cases h
  split at h
  · cases h; exact ⟨_, _, rfl, rfl, by assumption, rfl⟩
  · cases h
theorem rd_mod : RdOp K (rI (fun _ j => 0 < j) fun i j => .int (i % j)) dMod := rd_ii fun d e z h => by
  cases d <;> cases e <;> simp only [dMod] at h <;> try cases h
  split at h
  · cases h; exact ⟨_, _, rfl, rfl, by assumption, rfl⟩
  · cases h
theorem rd_pow : RdOp K (rI CPow fun i j => .int (i ^ j.toNat)) dPow := rd_ii fun d e z h => by
  cases d <;> cases e <;> simp only [dPow] at h <;> try cases h
  split at h
  · cases h; exact ⟨_, _, rfl, rfl, by assumption, rfl⟩
  · cases h

/-! ### comparisons -/
def dCmp (p : Int → Int → Bool) : D → D → Option D
  | .int i, .int j => some (.bool (p i j))
  | _, _ => none
theorem rd_cmp (p : Int → Int → Bool) : RdOp K (rI0 fun i j => .bl (p i j)) (dCmp p) := by
  intro A F H S σ x y d e z Q k rx ry h post
  cases d <;> cases e <;> simp only [dCmp] at h <;> cases h
  cases rp_int_inv rx; cases rp_int_inv ry
  exact ⟨_, _, rfl, rfl, post F H _ (SameT.refl F) k (.bl _)⟩
def strEq : D → D → Option Bool
  | .str x, .str y => some (decide (x = y))
  | _, _ => none
def dEq (d e : D) : Option D := if SeqAt.shaped d = true ∧ SeqAt.shaped e = true then some (.bool (PyData.eqv d e)) else (strEq d e).map .bool
def dNe (d e : D) : Option D := if SeqAt.shaped d = true ∧ SeqAt.shaped e = true then some (.bool (!PyData.eqv d e)) else (strEq d e).map fun b => .bool (!b)
def rEqAny (K : PySem.W.Frag) : R2 := fun x y H Q => rEqD K x y H Q ∨ rEq x y H Q
def rNeAny (K : PySem.W.Frag) : R2 := fun x y H Q => rNeD K x y H Q ∨ rNe x y H Q
theorem op_eqAny {X : Cx} (hu : X.A.units + 64 < cLine) : OpR X (compareOp .Eq) (rEqAny X.K) := OpR.or (op_eqD hu) op_eq
theorem op_neAny {X : Cx} (hu : X.A.units + 64 < cLine) : OpR X (compareOp .NotEq) (rNeAny X.K) := OpR.or (op_neD hu) op_ne
theorem strEq_inv {d e : D} {b : Bool} (h : strEq d e = some b) : ∃ x y, d = .str x ∧ e = .str y ∧ b = decide (x = y) := by
  unfold strEq at h
  split at h
  · cases h; exact ⟨_, _, rfl, rfl, rfl⟩
  · cases h
theorem strV_eq (x y : Str) : decide (V.str x = V.str y) = decide (x = y) := by
  by_cases h : x = y
  · subst h; simp
  · rw [decide_eq_false h, decide_eq_false (fun z => h (by injection z))]
theorem Rp.dpH {F H : Hp} {v : V} {d : D} (s : SameT F H) (c : SeqAt.shaped d = true) (r : Rp K F v d) : Dp K H v d := Rp.dp _ _ (SeqAt.canLay_of_shaped c) (r.mono s _ _)
theorem rd_eq : RdOp K (rEqAny K) dEq := by
  intro A F H S σ x y d e z Q k rx ry h post
  unfold dEq at h
  split at h
  · rename_i c
    cases h
    exact .inl ⟨d, e, rx.dpH k.sub.same.t c.1, ry.dpH k.sub.same.t c.2, c.1, c.2, post F H _ (SameT.refl F) k (.bl _)⟩
  · obtain ⟨b, h1, rfl⟩ := Option.map_eq_some_iff.mp h
    obtain ⟨u, v, rfl, rfl, rfl⟩ := strEq_inv h1
    obtain ⟨rfl, _⟩ := rp_str_inv rx
    obtain ⟨rfl, _⟩ := rp_str_inv ry
    exact .inr ⟨rfl, post F H _ (SameT.refl F) k (by rw [strV_eq]; exact .bl _)⟩
theorem rd_ne : RdOp K (rNeAny K) dNe := by
  intro A F H S σ x y d e z Q k rx ry h post
  unfold dNe at h
  split at h
  · rename_i c
    cases h
    exact .inl ⟨d, e, rx.dpH k.sub.same.t c.1, ry.dpH k.sub.same.t c.2, c.1, c.2, post F H _ (SameT.refl F) k (.bl _)⟩
  · obtain ⟨b, h1, rfl⟩ := Option.map_eq_some_iff.mp h
    obtain ⟨u, v, rfl, rfl, rfl⟩ := strEq_inv h1
    obtain ⟨rfl, _⟩ := rp_str_inv rx
    obtain ⟨rfl, _⟩ := rp_str_inv ry
    exact .inr ⟨rfl, post F H _ (SameT.refl F) k (by rw [strV_eq]; exact .bl _)⟩
/-- in a list, in a tuple, in a text -/
def dIn : D → D → Option D
  | .str x, .str y => some (.bool (!(Builtin.Str.occurrences y x 0 y.length 1).isEmpty))
  | d, .list ds => if SeqAt.shaped d = true ∧ SeqAt.shaped (.list ds) = true then some (.bool (ds.any fun z => PyData.eqv z d)) else none
  | d, .tuple ds => if SeqAt.shaped d = true ∧ SeqAt.shaped (.tuple ds) = true then some (.bool (ds.any fun z => PyData.eqv z d)) else none
  | _, _ => none
def dNotIn : D → D → Option D
  | .str x, .str y => some (.bool (!(!(Builtin.Str.occurrences y x 0 y.length 1).isEmpty)))
  | d, .list ds => if SeqAt.shaped d = true ∧ SeqAt.shaped (.list ds) = true then some (.bool (!ds.any fun z => PyData.eqv z d)) else none
  | d, .tuple ds => if SeqAt.shaped d = true ∧ SeqAt.shaped (.tuple ds) = true then some (.bool (!ds.any fun z => PyData.eqv z d)) else none
  | _, _ => none
def rInT (K : PySem.W.Frag) : R2 := fun x y H Q => ∃ d ds, Dp K H x d ∧ Dp K H y (.tuple ds) ∧ SeqAt.shaped d = true ∧ SeqAt.shaped (.tuple ds) = true ∧ Q (.bl (ds.any fun z => PyData.eqv z d)) H
def rNotInT (K : PySem.W.Frag) : R2 := fun x y H Q => ∃ d ds, Dp K H x d ∧ Dp K H y (.tuple ds) ∧ SeqAt.shaped d = true ∧ SeqAt.shaped (.tuple ds) = true ∧ Q (.bl (!ds.any fun z => PyData.eqv z d)) H
theorem op_inT {X : Cx} (hu : X.A.units + 65 < cLine) : OpR X (compareOp .In) (rInT X.K) := by
  intro pins s σ H x y v u Q I rx ry h
  obtain ⟨d, ds, hd, he, sd, se, q⟩ := h
  obtain ⟨as, r1⟩ := Dp.reads I d x v hd rx
  obtain ⟨bs, r2⟩ := Dp.reads I (.tuple ds) y u he ry
  exact SeqAt.in_tuple_reads r2 r1 (SeqAt.canLay_of_shaped se) (SeqAt.canLay_of_shaped sd) (room_in_shaped (xs := ds) sd hu) ⟨.bl _, H, I, rfl, q⟩
theorem op_notInT {X : Cx} (hu : X.A.units + 65 < cLine) : OpR X (compareOp .NotIn) (rNotInT X.K) := by
  intro pins s σ H x y v u Q I rx ry h
  obtain ⟨d, ds, hd, he, sd, se, q⟩ := h
  obtain ⟨as, r1⟩ := Dp.reads I d x v hd rx
  obtain ⟨bs, r2⟩ := Dp.reads I (.tuple ds) y u he ry
  exact SeqAt.notIn_tuple_reads r2 r1 (SeqAt.canLay_of_shaped se) (SeqAt.canLay_of_shaped sd) (room_in_shaped (xs := ds) sd hu) ⟨.bl _, H, I, rfl, q⟩
def rInAny (K : PySem.W.Frag) : R2 := fun x y H Q => (∃ i j, x = .str i ∧ y = .str j ∧ Q (.bl (!(Builtin.Str.occurrences j i 0 j.length 1).isEmpty)) H) ∨ rInD K x y H Q ∨ rInT K x y H Q
def rNotInAny (K : PySem.W.Frag) : R2 := fun x y H Q => (∃ i j, x = .str i ∧ y = .str j ∧ Q (.bl (!(!(Builtin.Str.occurrences j i 0 j.length 1).isEmpty))) H) ∨ rNotInD K x y H Q ∨ rNotInT K x y H Q
theorem op_inAny {X : Cx} (hu : X.A.units + 65 < cLine) : OpR X (compareOp .In) (rInAny X.K) := OpR.or op_in_str (OpR.or (op_inD hu) (op_inT hu))
theorem op_notInAny {X : Cx} (hu : X.A.units + 65 < cLine) : OpR X (compareOp .NotIn) (rNotInAny X.K) := OpR.or op_notin_str (OpR.or (op_notInD hu) (op_notInT hu))
theorem rd_in : RdOp K (rInAny K) dIn := by
  intro A F H S σ x y d e z Q k rx ry h post
  have fin : ∀ b, z = .bool b → Q (.bl b) H := fun b e => by subst e; exact post F H _ (SameT.refl F) k (.bl _)
  unfold dIn at h
  split at h
  · cases h
    obtain ⟨rfl, _⟩ := rp_str_inv rx
    obtain ⟨rfl, _⟩ := rp_str_inv ry
    exact .inl ⟨_, _, rfl, rfl, fin _ rfl⟩
  · split at h
    · rename_i c
      cases h
      exact .inr (.inl ⟨_, _, rx.dpH k.sub.same.t c.1, ry.dpH k.sub.same.t c.2, c.1, c.2, fin _ rfl⟩)
    · cases h
  · split at h
    · rename_i c
      cases h
      exact .inr (.inr ⟨_, _, rx.dpH k.sub.same.t c.1, ry.dpH k.sub.same.t c.2, c.1, c.2, fin _ rfl⟩)
    · cases h
  · cases h
theorem rd_notIn : RdOp K (rNotInAny K) dNotIn := by
  intro A F H S σ x y d e z Q k rx ry h post
  have fin : ∀ b, z = .bool b → Q (.bl b) H := fun b e => by subst e; exact post F H _ (SameT.refl F) k (.bl _)
  unfold dNotIn at h
  split at h
  · cases h
    obtain ⟨rfl, _⟩ := rp_str_inv rx
    obtain ⟨rfl, _⟩ := rp_str_inv ry
    exact .inl ⟨_, _, rfl, rfl, fin _ rfl⟩
  · split at h
    · rename_i c
      cases h
      exact .inr (.inl ⟨_, _, rx.dpH k.sub.same.t c.1, ry.dpH k.sub.same.t c.2, c.1, c.2, fin _ rfl⟩)
    · cases h
  · split at h
    · rename_i c
      cases h
      exact .inr (.inr ⟨_, _, rx.dpH k.sub.same.t c.1, ry.dpH k.sub.same.t c.2, c.1, c.2, fin _ rfl⟩)
    · cases h
  · cases h
end

/-! ### the expressions' rules by operators -/
section
variable {X : Cx} {pos : Pos} {a b c : Expr} {ga gb gc : M D}
theorem e_add (ha : GE X a ga) (hb : GE X b gb) : GE X (.BinOp a .Add b pos) (gBin dAdd ga gb) := e_op op_addAny rd_add ha hb
theorem e_sub (ha : GE X a ga) (hb : GE X b gb) : GE X (.BinOp a .Sub b pos) (gBin dSub ga gb) := e_op op_sub rd_sub ha hb
theorem e_mul (ha : GE X a ga) (hb : GE X b gb) : GE X (.BinOp a .Mult b pos) (gBin dMul ga gb) := e_op op_mulAny rd_mul ha hb
theorem e_div (ha : GE X a ga) (hb : GE X b gb) : GE X (.BinOp a .FloorDiv b pos) (gBin dDiv ga gb) := e_op op_fdivW rd_div ha hb
theorem e_mod (ha : GE X a ga) (hb : GE X b gb) : GE X (.BinOp a .Mod b pos) (gBin dMod ga gb) := e_op op_mod rd_mod ha hb
theorem e_pow (ha : GE X a ga) (hb : GE X b gb) : GE X (.BinOp a .Pow b pos) (gBin dPow ga gb) := e_op op_pow rd_pow ha hb
abbrev dLt := dCmp fun i j => decide (i < j)
abbrev dGt := dCmp fun i j => decide (j < i)
abbrev dGe := dCmp fun i j => decide (j ≤ i)
theorem e_lt (ha : GE X a ga) (hb : GE X b gb) : GE X (.Compare a [.Lt] [b] pos) (gBin dLt ga gb) := e_cmpR op_lt (rd_cmp _) (nomark _) ha hb
theorem e_gt (ha : GE X a ga) (hb : GE X b gb) : GE X (.Compare a [.Gt] [b] pos) (gBin dGt ga gb) := e_cmpR op_gt (rd_cmp _) (nomark _) ha hb
theorem e_ge (ha : GE X a ga) (hb : GE X b gb) : GE X (.Compare a [.GtE] [b] pos) (gBin dGe ga gb) := e_cmpR op_ge (rd_cmp _) (nomark _) ha hb
theorem e_eq (hu : X.A.units + 64 < cLine) (ha : GE X a ga) (hb : GE X b gb) : GE X (.Compare a [.Eq] [b] pos) (gBin dEq ga gb) := e_cmpR (op_eqAny hu) rd_eq (nomark _) ha hb
theorem e_in (hu : X.A.units + 65 < cLine) (ha : GE X a ga) (hb : GE X b gb) (hm : behindInMarks .In b = false := by rfl) : GE X (.Compare a [.In] [b] pos) (gBin dIn ga gb) := e_cmpR (op_inAny hu) rd_in hm ha hb
theorem t_ge (ha : GE X a ga) (hb : GE X b gb) : GT X (.Compare a [.GtE] [b] pos) (gB (gBin dGe ga gb)) := t_cmpR op_ge (rd_cmp _) (nomark _) ha hb
theorem t_eq (hu : X.A.units + 64 < cLine) (ha : GE X a ga) (hb : GE X b gb) : GT X (.Compare a [.Eq] [b] pos) (gB (gBin dEq ga gb)) := t_cmpR (op_eqAny hu) rd_eq (nomark _) ha hb
theorem t_ne (hu : X.A.units + 64 < cLine) (ha : GE X a ga) (hb : GE X b gb) : GT X (.Compare a [.NotEq] [b] pos) (gB (gBin dNe ga gb)) := t_cmpR (op_neAny hu) rd_ne (nomark _) ha hb
theorem t_in (hu : X.A.units + 65 < cLine) (ha : GE X a ga) (hb : GE X b gb) (hm : behindInMarks .In b = false := by rfl) : GT X (.Compare a [.In] [b] pos) (gB (gBin dIn ga gb)) := t_cmpR (op_inAny hu) rd_in hm ha hb
theorem t_notIn (hu : X.A.units + 65 < cLine) (ha : GE X a ga) (hb : GE X b gb) (hm : behindInMarks .NotIn b = false := by rfl) : GT X (.Compare a [.NotIn] [b] pos) (gB (gBin dNotIn ga gb)) := t_cmpR (op_notInAny hu) rd_notIn hm ha hb
/-! ### and, or, not, if -/
def gAnd (g h : M Bool) : M Bool := fun S => (g S).bind fun p => if p.1 = true then h p.2 else some (false, p.2)
def gOr (g h : M Bool) : M Bool := fun S => (g S).bind fun p => if p.1 = true then some (true, p.2) else h p.2
def gNot (g : M Bool) : M Bool := fun S => (g S).bind fun p => some (!p.1, p.2)
def gIf (t : M Bool) (g h : M D) : M D := fun S => (t S).bind fun p => if p.1 = true then g p.2 else h p.2
variable {rest : List Expr} {g h : M Bool}
theorem w_or1 (ha : GT X a g) : GW X (.BoolOp .Or [a] pos) g := let ⟨_, pa, ra⟩ := ha.ex; ⟨_, pw_or1 pa, ra⟩
theorem rd_or {K : PySem.W.Frag} {t u : TT} (ha : RdT K t g) (hb : RdT K u h) : RdT K (tOr t u) (gOr g h) := by
  intro A F H S σ d S' Q k e post
  obtain ⟨⟨x, S1⟩, h1, e⟩ := bind_inv e
  refine ha A F H S σ x S1 _ k h1 fun A1 F1 H1 p1 s1 k1 => ?_
  cases x with
  | false => exact hb A1 F1 H1 S1 σ d S' Q k1 e fun A2 F2 H2 p2 s2 k2 => post A2 F2 H2 (p1.trans p2) (s1.trans s2) k2
  | true =>
    cases e
    exact post A1 F1 H1 p1 s1 k1
theorem w_or (ha : GT X a g) (hb : GW X (.BoolOp .Or (b :: rest) pos) h) : GW X (.BoolOp .Or (a :: b :: rest) pos) (gOr g h) :=
  let ⟨_, pa, ra⟩ := ha.ex; let ⟨_, pb, rb⟩ := hb.ex; ⟨_, pw_or pa pb, rd_or ra rb⟩
theorem t_w {e : Expr} (hw : GW X e g) : GT X e g := let ⟨_, pa, ra⟩ := hw.ex; ⟨_, pa.pt, ra⟩
theorem t_not (ha : GT X a g) : GT X (.UnaryOp .Not a pos) (gNot g) := by
  obtain ⟨t, pa, ra⟩ := ha.ex
  refine ⟨_, pt_not pa, fun A F H S σ d S' Q k e post => ?_⟩
  obtain ⟨⟨x, S1⟩, h1, e⟩ := bind_inv e
  cases e
  exact ra A F H S σ x _ _ k h1 post
/-- as values -/
def gAndV (g h : M D) : M D := fun S => (g S).bind fun p => match p.1 with
  | .bool true => h p.2
  | .bool false => some (.bool false, p.2)
  | _ => none
def gOrV (g h : M D) : M D := fun S => (g S).bind fun p => match p.1 with
  | .bool true => some (.bool true, p.2)
  | .bool false => h p.2
  | _ => none
def gNotV (g : M D) : M D := fun S => (g S).bind fun p => match p.1 with
  | .bool b => some (.bool (!b), p.2)
  | _ => none
theorem e_one {op} (ha : GE X a ga) : GE X (.BoolOp op [a] pos) ga := let ⟨_, pa, ra⟩ := ha.ex; ⟨_, pe_one pa, ra⟩
theorem e_and (ha : GE X a ga) (hb : GE X (.BoolOp .And (b :: rest) pos) gb) : GE X (.BoolOp .And (a :: b :: rest) pos) (gAndV ga gb) := by
  obtain ⟨t, pa, ra⟩ := ha.ex
  obtain ⟨u, pb, rb⟩ := hb.ex
  refine ⟨_, pe_and pa pb, fun A F H S σ d S' Q k e post => ?_⟩
  obtain ⟨⟨x, S1⟩, h1, e⟩ := bind_inv e
  refine ra A F H S σ x S1 _ k h1 fun A1 F1 H1 v p1 s1 k1 r1 => ?_
  cases x <;> simp only at e <;> try cases e
  rename_i y
  cases rp_bool_inv r1
  refine ⟨y, rfl, ?_⟩
  cases y with
  | true => exact rb A1 F1 H1 S1 σ d S' Q k1 e fun A2 F2 H2 v p2 s2 k2 => post A2 F2 H2 v (p1.trans p2) (s1.trans s2) k2
  | false =>
    cases e
    exact post A1 F1 H1 _ p1 s1 k1 (.bl _)
theorem e_not (ha : GE X a ga) : GE X (.UnaryOp .Not a pos) (gNotV ga) := by
  obtain ⟨t, pa, ra⟩ := ha.ex
  refine ⟨_, pe_not pa, fun A F H S σ d S' Q k e post => ?_⟩
  obtain ⟨⟨x, S1⟩, h1, e⟩ := bind_inv e
  refine ra A F H S σ x S1 _ k h1 fun A1 F1 H1 v p1 s1 k1 r1 => ?_
  cases x <;> simp only at e <;> try cases e
  cases rp_bool_inv r1
  exact ⟨_, rfl, post A1 F1 H1 _ p1 s1 k1 (.bl _)⟩
theorem e_if (hc : GT X c g) (ha : GE X a ga) (hb : GE X b gb) : GE X (.IfExp c a b pos) (gIf g ga gb) := by
  obtain ⟨t, pc, rc⟩ := hc.ex
  obtain ⟨_, pa, ra⟩ := ha.ex
  obtain ⟨_, pb, rb⟩ := hb.ex
  refine ⟨_, pe_ifExp pc pa pb, fun A F H S σ d S' Q k e post => ?_⟩
  obtain ⟨⟨x, S1⟩, h1, e⟩ := bind_inv e
  refine rc A F H S σ x S1 _ k h1 fun A1 F1 H1 p1 s1 k1 => ?_
  cases x with
  | true => exact ra A1 F1 H1 S1 σ d S' Q k1 e fun A2 F2 H2 v p2 s2 k2 => post A2 F2 H2 v (p1.trans p2) (s1.trans s2) k2
  | false => exact rb A1 F1 H1 S1 σ d S' Q k1 e fun A2 F2 H2 v p2 s2 k2 => post A2 F2 H2 v (p1.trans p2) (s1.trans s2) k2
def gUn (f : D → Option D) (g : M D) : M D := fun S => (g S).bind fun p => (f p.1).bind fun z => some (z, p.2)
def dNeg : D → Option D
  | .int i => some (.int (-i))
  | _ => none
theorem e_neg (ha : GE X a ga) : GE X (.UnaryOp .USub a pos) (gUn dNeg ga) := by
  obtain ⟨t, pa, ra⟩ := ha.ex
  refine ⟨_, pe_un un_neg pa, fun A F H S σ d S' Q k e post => ?_⟩
  obtain ⟨⟨x, S1⟩, h1, e⟩ := bind_inv e
  obtain ⟨z, h2, e⟩ := bind_inv e
  cases e
  refine ra A F H S σ x _ _ k h1 fun A1 F1 H1 v p1 s1 k1 r1 => ?_
  cases x <;> simp only [dNeg] at h2 <;> cases h2
  cases rp_int_inv r1
  exact ⟨_, rfl, post A1 F1 H1 _ p1 s1 k1 (.int _)⟩

/-! ### arguments, displays -/
def gNil : M (List D) := fun S => some ([], S)
def gCons (g : M D) (gs : M (List D)) : M (List D) := fun S => (g S).bind fun p => (gs p.2).bind fun q => some (p.1 :: q.1, q.2)
variable {e : Expr} {es : List Expr} {ge : M D} {gs : M (List D)}
theorem a_nil : GA X [] gNil := ⟨_, pa_nil, fun A F H S σ d S' Q k e post => by cases e; exact post A F H _ (List.prefix_refl _) (SameT.refl F) k .nil⟩
theorem a_cons (ha : GE X e ge) (hs : GA X es gs) (hst : starEach (e :: es) X.env = (false, eval e X.env) :: starEach es X.env := by rfl) : GA X (e :: es) (gCons ge gs) := by
  obtain ⟨t, pa, ra⟩ := ha.ex
  obtain ⟨u, pb, rb⟩ := hs.ex
  refine ⟨_, pa_cons pa pb hst, fun A F H S σ d S' Q k e post => ?_⟩
  obtain ⟨⟨x, S1⟩, h1, e⟩ := bind_inv e
  obtain ⟨⟨y, S2⟩, h2, e⟩ := bind_inv e
  cases e
  refine ra A F H S σ x S1 _ k h1 fun A1 F1 H1 v p1 s1 k1 r1 => rb A1 F1 H1 S1 σ y S2 _ k1 h2 fun A2 F2 H2 vs p2 s2 k2 r2 => ?_
  exact post A2 F2 H2 _ (p1.trans p2) (s1.trans s2) k2 (.cons (r1.mono s2 _ _) r2)
def gTup (g : M (List D)) : M D := fun S => (g S).bind fun p => if p.1.length ≤ sizeLine then some (.tuple p.1, p.2) else none
def gLst (g : M (List D)) : M D := fun S => (g S).bind fun p => if p.1.length ≤ sizeLine then some (.list p.1, p.2) else none
theorem e_tup {x1} (hs : GA X es gs) : GE X (.Tuple es x1 pos) (gTup gs) := by
  obtain ⟨u, pb, rb⟩ := hs.ex
  refine ⟨_, pe_tup pb, fun A F H S σ d S' Q k e post => ?_⟩
  obtain ⟨⟨x, S1⟩, h1, e⟩ := bind_inv e
  simp only at e
  split at e
  · rename_i hz
    cases e
    refine rb A F H S σ x _ _ k h1 fun A1 F1 H1 vs p1 s1 k1 r1 => ⟨by rw [r1.length]; exact hz, fun p hp => ?_⟩
    obtain ⟨s2, k2, r2⟩ := k1.newTup hp r1 hz
    exact post A1 _ _ _ p1 (s1.trans s2) k2 r2
  · cases e
theorem e_lst (hs : GA X es gs) : GE X (.List es pos) (gLst gs) := by
  obtain ⟨u, pb, rb⟩ := hs.ex
  refine ⟨_, pe_lst pb, fun A F H S σ d S' Q k e post => ?_⟩
  obtain ⟨⟨x, S1⟩, h1, e⟩ := bind_inv e
  simp only at e
  split at e
  · rename_i hz
    cases e
    refine rb A F H S σ x _ _ k h1 fun A1 F1 H1 vs p1 s1 k1 r1 => ⟨by rw [r1.length]; exact hz, fun p hp => ?_⟩
    obtain ⟨s2, k2, r2⟩ := k1.newList hp r1 hz
    exact post A1 _ _ _ p1 (s1.trans s2) k2 r2
  · cases e

/-! ### items, slices -/
def dIx : D → D → Option D
  | .list xs, .int i => atI xs i
  | .tuple xs, .int i => atI xs i
  | .str z, .int i => (atI z.cps.toList i).bind fun c => some (.str ⟨#[c]⟩)
  | _, _ => none
theorem rps_atI {K : PySem.W.Frag} {F : Hp} {vs : List V} {ds : List D} {i : Int} {d : D} (r : Rps K F vs ds) (h : atI ds i = some d) : ∃ v, atI vs i = some v ∧ Rp K F v d := by
  unfold atI at h ⊢
  rw [r.length]
  obtain ⟨j, h1, h2⟩ := bind_inv h
  rw [h1]
  exact r.get h2
def rIxAny (K : PySem.W.Frag) : R2 := fun x y H Q => rIxL K x y H Q ∨ rIxT K x y H Q ∨ rIxS x y H Q
theorem ix_any : IxR X (rIxAny X.K) := IxR.or ix_list (IxR.or ix_tup ix_str)
theorem one_len (c : Nat) : (⟨#[c]⟩ : Str).length ≤ sizeLine := by
  show 1 ≤ sizeLine
  decide
theorem rd_ix {K : PySem.W.Frag} : RdOp K (rIxAny K) dIx := by
  intro A F H S σ x y d e z Q k rx ry h post
  unfold dIx at h
  split at h
  · obtain ⟨a, xs, rfl, h1, h2, _⟩ := rp_list_inv rx
    cases rp_int_inv ry
    obtain ⟨v, e1, r⟩ := rps_atI h2 h
    exact .inl ⟨a, xs, _, v, rfl, rfl, SqL.of (k.sub.same _ _ h1), e1, post F H _ (SameT.refl F) k r⟩
  · obtain ⟨a, xs, rfl, h1, h2, _⟩ := rp_tup_inv rx
    cases rp_int_inv ry
    obtain ⟨v, e1, r⟩ := rps_atI h2 h
    exact .inr (.inl ⟨a, xs, _, v, rfl, rfl, sqT_same k.sub.same.t h1, e1, post F H _ (SameT.refl F) k r⟩)
  · obtain ⟨rfl, hz⟩ := rp_str_inv rx
    cases rp_int_inv ry
    obtain ⟨c, h1, h2⟩ := bind_inv h
    cases h2
    exact .inr (.inr ⟨_, _, c, rfl, rfl, hz, h1, post F H _ (SameT.refl F) k (.str (one_len c))⟩)
  · cases h
theorem e_ix (ha : GE X a ga) (hb : GE X b gb) (hs : PlainIx b := by exact fun _ _ => rfl) : GE X (.Subscript a b pos) (gBin dIx ga gb) := by
  obtain ⟨t, pa, ra⟩ := ha.ex
  obtain ⟨u, pb, rb⟩ := hb.ex
  exact ⟨_, pe_ix ix_any pa pb hs, rd_op rd_ix ra rb⟩
/-- a slice's part -/
structure GO (X : Cx) (e : Option Expr) (g : M (Option Int)) : Prop where
  ex : ∃ t, PO X e t ∧ ∀ A F H S σ o S' (Q : Option Int → Hp → Prop), Ok X.K A F H S σ → g S = some (o, S') → (∀ A' F' H', A <+: A' → SameT F F' → Ok X.K A' F' H' S' σ → Q o H') → t σ H Q
def gNo : M (Option Int) := fun S => some (none, S)
def gSo (g : M D) : M (Option Int) := fun S => (g S).bind fun p => match p.1 with
  | .int i => some (some i, p.2)
  | _ => none
theorem o_none : GO X none gNo := ⟨_, po_none, fun A F H S σ o S' Q k e post => by cases e; exact post A F H (List.prefix_refl _) (SameT.refl F) k⟩
theorem o_some (ha : GE X a ga) : GO X (some a) (gSo ga) := by
  obtain ⟨t, pa, ra⟩ := ha.ex
  refine ⟨_, po_some pa, fun A F H S σ o S' Q k e post => ?_⟩
  obtain ⟨⟨x, S1⟩, h1, e⟩ := bind_inv e
  refine ra A F H S σ x _ _ k h1 fun A1 F1 H1 v p1 s1 k1 r1 => ?_
  cases x <;> simp only at e <;> cases e
  cases rp_int_inv r1
  exact ⟨_, rfl, post A1 F1 H1 p1 s1 k1⟩
def cutL {α : Type} (xs : List α) (lo hi : Option Int) : List α := (xs.drop (HT.sIx xs.length 0 lo)).take (HT.sIx xs.length xs.length hi - HT.sIx xs.length 0 lo)
theorem cutL_le {α : Type} (xs : List α) (lo hi : Option Int) : (cutL xs lo hi).length ≤ xs.length := by
  unfold cutL
  rw [List.length_take, List.length_drop]
  omega
def dSl : D → Option Int → Option Int → Option D
  | .list xs, lo, hi => some (.list (cutL xs lo hi))
  | .tuple xs, lo, hi => some (.tuple (cutL xs lo hi))
  | .str z, lo, hi => some (.str (cutS z lo hi))
  | _, _, _ => none
def gSl (g : M D) (gl gh : M (Option Int)) : M D := fun S => (g S).bind fun p => (gl p.2).bind fun q => (gh q.2).bind fun r => (dSl p.1 q.1 r.1).bind fun z => some (z, r.2)
def rSlAny (K : PySem.W.Frag) : V → Option Int → Option Int → Hp → VK → Prop := fun x lo hi H Q => rSlL K x lo hi H Q ∨ rSlA K x lo hi H Q ∨ rSlS x lo hi H Q
theorem sl_any : SlR X (rSlAny X.K) := SlR.or sl_list (SlR.or sl_tupA sl_str)
theorem rps_cut {K : PySem.W.Frag} {F : Hp} {vs : List V} {ds : List D} (r : Rps K F vs ds) (lo hi : Option Int) : Rps K F (cutV vs lo hi) (cutL ds lo hi) := by
  unfold cutV cutL
  rw [r.length]
  exact (r.drop _).take _
theorem rd_sl {K : PySem.W.Frag} {A : List Addr} {F H : Hp} {S : Sx} {σ : L2.St} {x : V} {d z : D} {lo hi : Option Int} {Q : VK} (k : Ok K A F H S σ) (rx : Rp K F x d) (h : dSl d lo hi = some z)
    (post : ∀ F' H' v, SameT F F' → Ok K A F' H' S σ → Rp K F' v z → Q v H') : rSlAny K x lo hi H Q := by
  cases d <;> simp only [dSl] at h <;> cases h
  · obtain ⟨rfl, hz⟩ := rp_str_inv rx
    exact .inr (.inr ⟨_, rfl, hz, post F H _ (SameT.refl F) k (.str (Nat.le_trans (cutS_length _ _ _) hz))⟩)
  · obtain ⟨a, xs, rfl, h1, h2, h3⟩ := rp_list_inv rx
    refine .inl ⟨a, xs, rfl, SqL.of (k.sub.same _ _ h1), fun p hp => ?_⟩
    obtain ⟨s1, k1, r1⟩ := k.newList hp (rps_cut h2 lo hi) (Nat.le_trans (cutL_le _ _ _) h3)
    exact post _ _ _ s1 k1 r1
  · obtain ⟨a, xs, rfl, h1, h2, h3⟩ := rp_tup_inv rx
    refine .inr (.inl ⟨a, xs, rfl, sqT_same k.sub.same.t h1, fun hw => ?_, fun _ p hp => ?_⟩)
    · refine post F H _ (SameT.refl F) k ?_
      rename_i ds
      have : cutL ds lo hi = ds := by
        unfold cutL
        rw [← h2.length, hw.1, hw.2, h2.length]
        simp
      rw [this]
      exact rx
    · obtain ⟨s1, k1, r1⟩ := k.newTup hp (rps_cut h2 lo hi) (Nat.le_trans (cutL_le _ _ _) h3)
      exact post _ _ _ s1 k1 r1
theorem e_sl {lo hi : Option Expr} {p2 : Pos} {gl gh : M (Option Int)} (ha : GE X a ga) (hl : GO X lo gl) (hh : GO X hi gh) : GE X (.Subscript a (.Slice lo hi none p2) pos) (gSl ga gl gh) := by
  obtain ⟨t, pa, ra⟩ := ha.ex
  obtain ⟨_, pl, rl⟩ := hl.ex
  obtain ⟨_, ph, rh⟩ := hh.ex
  refine ⟨_, pe_slice sl_any pa pl ph, fun A F H S σ d S' Q k e post => ?_⟩
  obtain ⟨⟨x, S1⟩, h1, e⟩ := bind_inv e
  obtain ⟨⟨l, S2⟩, h2, e⟩ := bind_inv e
  obtain ⟨⟨u, S3⟩, h3, e⟩ := bind_inv e
  obtain ⟨z, h4, e⟩ := bind_inv e
  cases e
  refine ra A F H S σ x _ _ k h1 fun A1 F1 H1 v p1 s1 k1 r1 => rl A1 F1 H1 _ σ l _ _ k1 h2 fun A2 F2 H2 p2 s2 k2 => rh A2 F2 H2 _ σ u _ _ k2 h3 fun A3 F3 H3 p3 s3 k3 => ?_
  exact rd_sl k3 ((r1.mono s2 _ _).mono s3 _ _) h4 fun F4 H4 w s4 k4 r4 => post A3 F4 H4 w (p1.trans (p2.trans p3)) (s1.trans (s2.trans (s3.trans s4))) k4 r4
end
end Fu

set_option maxHeartbeats 4000000
namespace Fu
open PySem PySem.Spec PyProof.Rows L2
variable [TabsC]

/-! ### calls of built-ins by name -/
def RdC (K : PySem.W.Frag) (r : List V → Hp → VK → Prop) (f : List D → Option D) : Prop := ∀ A F H S σ xs ds z Q, Ok K A F H S σ → Rps K F xs ds → f ds = some z →
  (∀ F' H' v, SameT F F' → Ok K A F' H' S σ → Rp K F' v z → Q v H') → r xs H Q
def gCall (f : List D → Option D) (g : M (List D)) : M D := fun S => (g S).bind fun p => (f p.1).bind fun z => some (z, p.2)
section
variable {X : Cx} {pos p p2 : Pos} {x : Str} {e : Expr} {es : List Expr} {gs : M (List D)} {r : List V → Hp → VK → Prop} {f : List D → Option D} {id T : String}
theorem rd_callB {K : PySem.W.Frag} {t : TA} (hf : RdC K r f) (rs : RdA K t gs) : RdE K (tCB r t) (gCall f gs) := by
  intro A F H S σ d S' Q k h post
  obtain ⟨⟨ds, S1⟩, h1, h⟩ := bind_inv h
  obtain ⟨z, h2, h⟩ := bind_inv h
  cases h
  exact rs A F H S σ ds _ _ k h1 fun A1 F1 H1 vs p1 s1 k1 r1 => hf A1 F1 H1 _ σ vs ds _ Q k1 r1 h2 fun F2 H2 v s2 k2 r2 => post A1 F2 H2 v p1 (s1.trans s2) k2 r2
theorem e_callB (hc : CallR X (.builtin id) r) (hf : RdC X.K r f) (hm : X.mg x = none) (hv : bootBuiltins x = some (.builtin id)) (ha : GA X (e :: es) gs) (hg : Gl X x := by rfl) (hn : x ≠ "__name__" := by decide) (hdb : (x == ("__debug__" : Str)) = false := by decide)
    (he : starEach (e :: es) X.env = (false, eval e X.env) :: starEach es X.env := by rfl) (hpl : (backTo pos (starEach es X.env)).any (·.1) = false := by rfl) : GE X (.Call (.Name x p) (e :: es) [] pos) (gCall f gs) :=
  let ⟨_, pa, ra⟩ := ha.ex; ⟨_, pe_callB hc hg hm hv pa hn hdb he hpl, rd_callB hf ra⟩
theorem e_callTy (hc : CallR X (.type T) r) (hf : RdC X.K r f) (hm : X.mg x = none) (hv : bootBuiltins x = some (.type T)) (ha : GA X (e :: es) gs) (hg : Gl X x := by rfl) (hn : x ≠ "__name__" := by decide) (hdb : (x == ("__debug__" : Str)) = false := by decide)
    (he : starEach (e :: es) X.env = (false, eval e X.env) :: starEach es X.env := by rfl) (hpl : (backTo pos (starEach es X.env)).any (·.1) = false := by rfl) : GE X (.Call (.Name x p) (e :: es) [] pos) (gCall f gs) :=
  let ⟨_, pa, ra⟩ := ha.ex; ⟨_, pe_callTy hc hg hm hv pa hn hdb he hpl, rd_callB hf ra⟩
end

section
variable {K : PySem.W.Frag}
theorem rps1 {F : Hp} {vs : List V} {d : D} (r : Rps K F vs [d]) : ∃ v, vs = [v] ∧ Rp K F v d := by
  cases r with
  | cons h1 h2 => cases h2; exact ⟨_, rfl, h1⟩
theorem rps2 {F : Hp} {vs : List V} {d e : D} (r : Rps K F vs [d, e]) : ∃ v u, vs = [v, u] ∧ Rp K F v d ∧ Rp K F u e := by
  cases r with
  | cons h1 h2 => cases h2 with
    | cons h3 h4 => cases h4; exact ⟨_, _, rfl, h1, h3⟩
def dLen : List D → Option D
  | [.list xs] => some (.int xs.length)
  | [.tuple xs] => some (.int xs.length)
  | [.str x] => some (.int x.length)
  | _ => none
theorem rd_len : RdC K (fun xs H Q => ∃ x n, xs = [x] ∧ LenV K x H n ∧ Q (.int n) H) dLen := by
  intro A F H S σ xs ds z Q k r h post
  unfold dLen at h
  split at h <;> cases h
  · obtain ⟨v, rfl, rv⟩ := rps1 r
    obtain ⟨a, vs, rfl, h1, h2, _⟩ := rp_list_inv rv
    exact ⟨_, _, rfl, .inl ⟨vs, SqL.of (k.sub.same _ _ h1), h2.length.symm⟩, post F H _ (SameT.refl F) k (.int _)⟩
  · obtain ⟨v, rfl, rv⟩ := rps1 r
    obtain ⟨a, vs, rfl, h1, h2, _⟩ := rp_tup_inv rv
    exact ⟨_, _, rfl, .inr ⟨vs, sqT_same k.sub.same.t h1, h2.length.symm⟩, post F H _ (SameT.refl F) k (.int _)⟩
  · obtain ⟨v, rfl, rv⟩ := rps1 r
    obtain ⟨rfl, hz⟩ := rp_str_inv rv
    exact ⟨_, _, rfl, ⟨hz, rfl⟩, post F H _ (SameT.refl F) k (.int _)⟩
def dInt : List D → Option D
  | [.int i] => some (.int i)
  | [.bool b] => some (.int (if b then 1 else 0))
  | _ => none
theorem rd_int : RdC K (fun xs H Q => (∃ i, xs = [.int i] ∧ Q (.int i) H) ∨ ∃ k, xs = [.bl k] ∧ Q (.int (if k then 1 else 0)) H) dInt := by
  intro A F H S σ xs ds z Q k r h post
  unfold dInt at h
  split at h <;> cases h
  · obtain ⟨v, rfl, rv⟩ := rps1 r
    cases rp_int_inv rv
    exact .inl ⟨_, rfl, post F H _ (SameT.refl F) k (.int _)⟩
  · obtain ⟨v, rfl, rv⟩ := rps1 r
    cases rp_bool_inv rv
    exact .inr ⟨_, rfl, post F H _ (SameT.refl F) k (.int _)⟩
def dMax2 : List D → Option D
  | [.int i, .int j] => some (.int (if j > i then j else i))
  | _ => none
def dMin2 : List D → Option D
  | [.int i, .int j] => some (.int (if j < i then j else i))
  | _ => none
theorem rd_max2 : RdC K (fun xs H Q => ∃ i j, xs = [.int i, .int j] ∧ Q (.int (if j > i then j else i)) H) dMax2 := by
  intro A F H S σ xs ds z Q k r h post
  unfold dMax2 at h
  split at h <;> cases h
  obtain ⟨v, u, rfl, rv, ru⟩ := rps2 r
  cases rp_int_inv rv; cases rp_int_inv ru
  exact ⟨_, _, rfl, post F H _ (SameT.refl F) k (.int _)⟩
theorem rd_min2 : RdC K (fun xs H Q => ∃ i j, xs = [.int i, .int j] ∧ Q (.int (if j < i then j else i)) H) dMin2 := by
  intro A F H S σ xs ds z Q k r h post
  unfold dMin2 at h
  split at h <;> cases h
  obtain ⟨v, u, rfl, rv, ru⟩ := rps2 r
  cases rp_int_inv rv; cases rp_int_inv ru
  exact ⟨_, _, rfl, post F H _ (SameT.refl F) k (.int _)⟩
def dList : List D → Option D
  | [.list xs] => some (.list xs)
  | [.tuple xs] => some (.list xs)
  | _ => none
def dTuple : List D → Option D
  | [.list xs] => some (.tuple xs)
  | [.tuple xs] => some (.tuple xs)
  | _ => none
theorem rd_tuple : RdC K (fun xs H Q => ∃ p ys, xs = [.ref p] ∧ ((SqL K H p ys ∧ ∀ l, H l = none → Q (.ref l) (upd H l (.tup ys))) ∨ (SqT K H p ys ∧ Q (.ref p) H))) dTuple := by
  intro A F H S σ xs ds z Q k r h post
  unfold dTuple at h
  split at h <;> cases h
  · obtain ⟨v, rfl, rv⟩ := rps1 r
    obtain ⟨a, vs, rfl, h1, h2, h3⟩ := rp_list_inv rv
    refine ⟨_, _, rfl, .inl ⟨SqL.of (k.sub.same _ _ h1), fun l hl => ?_⟩⟩
    obtain ⟨s1, k1, r1⟩ := k.newTup hl h2 h3
    exact post _ _ _ s1 k1 r1
  · obtain ⟨v, rfl, rv⟩ := rps1 r
    obtain ⟨a, vs, rfl, h1, h2, h3⟩ := rp_tup_inv rv
    exact ⟨_, _, rfl, .inr ⟨sqT_same k.sub.same.t h1, post F H _ (SameT.refl F) k rv⟩⟩
/-- all items are truths -/
def allBools : List D → Option (List Bool)
  | [] => some []
  | .bool b :: ds => (allBools ds).bind fun bs => some (b :: bs)
  | _ => none
theorem allBools_map : ∀ {ds : List D} {bs : List Bool}, allBools ds = some bs → ds = bs.map .bool
  | [], _, h => by cases h; rfl
  | .bool b :: ds, _, h => by
    obtain ⟨bs, h1, h2⟩ := bind_inv h
    cases h2
    rw [List.map_cons, allBools_map h1]
  | .none :: _, _, h => by simp [allBools] at h
  | .int _ :: _, _, h => by simp [allBools] at h
  | .str _ :: _, _, h => by simp [allBools] at h
  | .list _ :: _, _, h => by simp [allBools] at h
  | .tuple _ :: _, _, h => by simp [allBools] at h
  | .dict _ :: _, _, h => by simp [allBools] at h
theorem rps_bools {F : Hp} : ∀ {vs : List V} {bs : List Bool}, Rps K F vs (bs.map .bool) → vs = bs.map V.bl
  | _, [], h => by cases h; rfl
  | _, b :: bs, h => by
    cases h with
    | cons h1 h2 => rw [rp_bool_inv h1, rps_bools h2]; rfl
def dAll : List D → Option D
  | [.list xs] => (allBools xs).bind fun bs => some (.bool (bs.all id))
  | _ => none
def dAny : List D → Option D
  | [.list xs] => (allBools xs).bind fun bs => some (.bool (bs.any id))
  | _ => none
theorem rd_all : RdC K (rAll K) dAll := by
  intro A F H S σ xs ds z Q k r h post
  unfold dAll at h
  split at h
  · obtain ⟨bs, h1, h2⟩ := bind_inv h
    cases h2
    obtain ⟨v, rfl, rv⟩ := rps1 r
    obtain ⟨a, vs, rfl, g1, g2, g3⟩ := rp_list_inv rv
    rw [allBools_map h1] at g2
    rw [rps_bools g2] at g1
    exact ⟨a, bs, rfl, SqL.of (k.sub.same _ _ g1), post F H _ (SameT.refl F) k (.bl _)⟩
  · cases h
theorem rd_any : RdC K (rAny K) dAny := by
  intro A F H S σ xs ds z Q k r h post
  unfold dAny at h
  split at h
  · obtain ⟨bs, h1, h2⟩ := bind_inv h
    cases h2
    obtain ⟨v, rfl, rv⟩ := rps1 r
    obtain ⟨a, vs, rfl, g1, g2, g3⟩ := rp_list_inv rv
    rw [allBools_map h1] at g2
    rw [rps_bools g2] at g1
    exact ⟨a, bs, rfl, SqL.of (k.sub.same _ _ g1), post F H _ (SameT.refl F) k (.bl _)⟩
  · cases h
end
section
variable {X : Cx} {pos p p2 : Pos} {e : Expr} {es : List Expr} {gs : M (List D)}
theorem e_len (hm : X.mg "len" = none) (ha : GA X [e] gs) (hg : Gl X "len" := by rfl) (he : starEach [e] X.env = (false, eval e X.env) :: starEach [] X.env := by rfl) : GE X (.Call (.Name "len" p) [e] [] pos) (gCall dLen gs) :=
  e_callB call_len rd_len hm PySem.boot_len ha hg (he := he) (hpl := by rfl)
theorem e_intOf (hm : X.mg "int" = none) (ha : GA X [e] gs) (hg : Gl X "int" := by rfl) (he : starEach [e] X.env = (false, eval e X.env) :: starEach [] X.env := by rfl) : GE X (.Call (.Name "int" p) [e] [] pos) (gCall dInt gs) :=
  e_callTy call_int1 rd_int hm (by decide +kernel) ha hg (he := he) (hpl := by rfl)
theorem e_tuple (hm : X.mg "tuple" = none) (ha : GA X [e] gs) (hg : Gl X "tuple" := by rfl) (he : starEach [e] X.env = (false, eval e X.env) :: starEach [] X.env := by rfl) : GE X (.Call (.Name "tuple" p) [e] [] pos) (gCall dTuple gs) :=
  e_callTy call_tuple_of rd_tuple hm (by decide +kernel) ha hg (he := he) (hpl := by rfl)
theorem e_all (hm : X.mg "all" = none) (ha : GA X [e] gs) (hc : X.calm = true := by rfl) (hg : Gl X "all" := by rfl) (he : starEach [e] X.env = (false, eval e X.env) :: starEach [] X.env := by rfl) : GE X (.Call (.Name "all" p) [e] [] pos) (gCall dAll gs) :=
  e_callB (cr_all hc) rd_all hm (by decide +kernel) ha hg (he := he) (hpl := by rfl)
theorem e_any (hm : X.mg "any" = none) (ha : GA X [e] gs) (hc : X.calm = true := by rfl) (hg : Gl X "any" := by rfl) (he : starEach [e] X.env = (false, eval e X.env) :: starEach [] X.env := by rfl) : GE X (.Call (.Name "any" p) [e] [] pos) (gCall dAny gs) :=
  e_callB (cr_any hc) rd_any hm (by decide +kernel) ha hg (he := he) (hpl := by rfl)
variable {e2 : Expr}
theorem e_max2 (hm : X.mg "max" = none) (ha : GA X [e, e2] gs) (hc : X.calm = true := by rfl) (hg : Gl X "max" := by rfl) (he : starEach [e, e2] X.env = (false, eval e X.env) :: starEach [e2] X.env := by rfl) (hpl : (backTo pos (starEach [e2] X.env)).any (·.1) = false := by rfl) :
    GE X (.Call (.Name "max" p) [e, e2] [] pos) (gCall dMax2 gs) := e_callB (call_max2 hc) rd_max2 hm (by decide +kernel) ha hg (he := he) (hpl := hpl)
theorem e_min2 (hm : X.mg "min" = none) (ha : GA X [e, e2] gs) (hc : X.calm = true := by rfl) (hg : Gl X "min" := by rfl) (he : starEach [e, e2] X.env = (false, eval e X.env) :: starEach [e2] X.env := by rfl) (hpl : (backTo pos (starEach [e2] X.env)).any (·.1) = false := by rfl) :
    GE X (.Call (.Name "min" p) [e, e2] [] pos) (gCall dMin2 gs) := e_callB (call_min2 hc) rd_min2 hm (by decide +kernel) ha hg (he := he) (hpl := hpl)
end

/-! ### isinstance -/
def dTy : D → String
  | .none => "NoneType"
  | .bool _ => "bool"
  | .int _ => "int"
  | .str _ => "str"
  | .list _ => "list"
  | .tuple _ => "tuple"
  | .dict _ => "dict"
def isT (T : String) (d : D) : Bool := (dTy d == T) || (T == "int" && dTy d == "bool")
theorem kit_int (d : D) : kitB (dTy d) "int" = some (isT "int" d) := by cases d <;> simp only [dTy, isT] <;> decide +kernel
theorem kit_bool (d : D) : kitB (dTy d) "bool" = some (isT "bool" d) := by cases d <;> simp only [dTy, isT] <;> decide +kernel
theorem kit_str (d : D) : kitB (dTy d) "str" = some (isT "str" d) := by cases d <;> simp only [dTy, isT] <;> decide +kernel
theorem kit_list (d : D) : kitB (dTy d) "list" = some (isT "list" d) := by cases d <;> simp only [dTy, isT] <;> decide +kernel
theorem kit_tuple (d : D) : kitB (dTy d) "tuple" = some (isT "tuple" d) := by cases d <;> simp only [dTy, isT] <;> decide +kernel
def TyE (K : PySem.W.Frag) (H : Hp) (v : V) (t : Value) : Prop := TyX K H v t ∨ ∃ a, v = .ref a ∧ t = .type "dict" ∧ H a = some (dictO a)
theorem kit_ofE {X : Cx} {pins : List (Addr × Obj)} {σ : L2.St} {H : Hp} {s : Shared} {x : V} {u t : Value} (I : Inv X pins σ H s) (r : RelV x u) (ty : TyE X.K H x t) : ∃ P, PySem.W.KitX X.K u t P ∧ P s.heap ∧ u ≠ .builtin "__main__.__loader__#opaque" := by
  rcases ty with ty | ⟨a, rfl, rfl, h⟩
  · exact kit_of I r ty
  · cases r
    exact ⟨_, PySem.W.kitx_dict, (show ObjOk X.prog X.w H s.heap a (dictO a) from I.hok a _ h).1, (fun z => nomatch z)⟩
def rIsiE (K : PySem.W.Frag) : List V → Hp → VK → Prop := fun xs H Q => ∃ x c t u b, xs = [x, c] ∧ ClsV c u ∧ TyE K H x t ∧ PySem.W.kitOne K t u = some b ∧ Q (.bl b) H
theorem call_isiE {X : Cx} : CallR X (.builtin "isinstance") (rIsiE X.K) := by
  intro pins s σ H xs us Q I r ⟨x, c, t, u, b, e0, k, ty, e, q⟩
  subst e0
  obtain ⟨u1, u2, rfl, r1, r2⟩ := L2.vals2 r
  have e2 := ClsV.eq k r2
  subst e2
  obtain ⟨P, Z, p, hx⟩ := kit_ofE I r1 ty
  exact PySem.W.kia_one Z I.kIn p e hx fun tk => ⟨.bl b, H, I.tok tk, rfl, q⟩
def rIsiTE (K : PySem.W.Frag) : List V → Hp → VK → Prop := fun xs H Q => ∃ x tp cs t us b, xs = [x, .ref tp] ∧ H tp = some (.tup cs) ∧ Paired ClsV cs us ∧ TyE K H x t ∧ PySem.W.kitAny K t us = some b ∧ Q (.bl b) H
theorem cls_vals : ∀ {cs : List V} {us its : List Value}, Paired ClsV cs us → Vals cs its → its = us
  | [], _, _, .nil, .nil => rfl
  | _ :: _, _, _, .cons h1 h2, .cons g1 g2 => by rw [cls_vals h2 g2, ClsV.eq h1 g1]
theorem call_isiTE {X : Cx} : CallR X (.builtin "isinstance") (rIsiTE X.K) := by
  intro pins s σ H xs us Q I r ⟨x, tp, cs, t, ws, b, e0, hT, k, ty, e, q⟩
  subst e0
  obtain ⟨u1, u2, rfl, r1, r2⟩ := L2.vals2 r
  cases r2
  obtain ⟨P, Z, p, hx⟩ := kit_ofE I r1 ty
  obtain ⟨_, its, rv, ot, t1, t2, n, t3⟩ := (show ObjOk X.prog X.w H s.heap tp (.tup cs) from I.hok tp _ hT)
  have hi := cls_vals k rv
  subst hi
  obtain ⟨oc, od, oda, osl⟩ := ot
  dsimp only at t2 t3
  subst t2 t3
  exact PySem.W.kia_tup Z I.kIn p t1 e hx fun tk => ⟨.bl b, H, I.tok tk, rfl, q⟩
theorem rp_ty {K : PySem.W.Frag} {F H : Hp} {v : V} {d : D} (s : SameT F H) (r : Rp K F v d) : TyE K H v (.type (dTy d)) := by
  cases r with
  | non => exact .inl (.base .non)
  | bl b => exact .inl (.base (.bl b))
  | int i => exact .inl (.base (.int i))
  | str _ => exact .inl (.base (.str _))
  | lst h1 _ _ => exact .inl (.base (.lst (s.old _ _ h1 trivial)))
  | tup h1 _ _ =>
    rcases sqT_same s h1 with (h | ⟨o, h⟩) | ⟨o, its, n, h, hc, _⟩
    · exact .inl (.base (.tup h))
    · exact .inl (.fTuple h)
    · exact .inl (.kTuple h hc)
  | dct h _ =>
    rcases h with ⟨es, h⟩ | ⟨es, h⟩ | h
    · exact .inl (.base (.dK (s.old _ _ h trivial)))
    · exact .inl (.base (.dT (s.old _ _ h trivial)))
    · exact .inr ⟨_, rfl, rfl, s.old _ _ h trivial⟩
section
variable {X : Cx} {pos p p2 p3 p4 : Pos} {e : Expr} {g : M D} {x y : Str} {T U : String}
def gIsi (T : String) (g : M D) : M D := fun S => (g S).bind fun p => some (.bool (isT T p.1), p.2)
def gIsi2 (T U : String) (g : M D) : M D := fun S => (g S).bind fun p => some (.bool (isT T p.1 || isT U p.1), p.2)
theorem e_isi (hm : X.mg "isinstance" = none) (hmx : X.mg x = none) (hv : bootBuiltins x = some (.type T)) (kt : ∀ d, kitB (dTy d) T = some (isT T d)) (ha : GE X e g) (hg : Gl X "isinstance" := by rfl) (hgx : Gl X x := by rfl)
    (hnx : x ≠ "__name__" := by decide) (hdx : (x == ("__debug__" : Str)) = false := by decide)
    (he : starEach [e, .Name x p2] X.env = (false, eval e X.env) :: starEach [.Name x p2] X.env := by rfl) (he2 : starEach [.Name x p2] X.env = (false, eval (.Name x p2) X.env) :: starEach [] X.env := by rfl)
    (hpl : (backTo pos (starEach [.Name x p2] X.env)).any (·.1) = false := by rfl) :
    GE X (.Call (.Name "isinstance" p) [e, .Name x p2] [] pos) (gIsi T g) := by
  obtain ⟨t, pa, ra⟩ := ha.ex
  refine ⟨_, pe_callB call_isiE hg hm (by decide +kernel) (pa_cons pa (pa_cons (pe_bltn (v := .ty T) hgx hmx hv rfl hnx hdx) pa_nil he2) he) (by decide) (by decide) he hpl, fun A F H S σ d S' Q k h post => ?_⟩
  obtain ⟨⟨d1, S1⟩, h1, h⟩ := bind_inv h
  cases h
  refine ra A F H S σ d1 _ _ k h1 fun A1 F1 H1 v p1 s1 k1 r1 => ?_
  exact ⟨v, .ty T, _, _, _, rfl, .ty T, rp_ty k1.sub.same.t r1, kit_ty (kt d1), post A1 F1 H1 _ p1 s1 k1 (.bl _)⟩
theorem e_isi2 {kx} (hm : X.mg "isinstance" = none) (hmx : X.mg x = none) (hv : bootBuiltins x = some (.type T)) (kt : ∀ d, kitB (dTy d) T = some (isT T d)) (hmy : X.mg y = none) (hw : bootBuiltins y = some (.type U)) (ku : ∀ d, kitB (dTy d) U = some (isT U d))
    (ha : GE X e g) (hg : Gl X "isinstance" := by rfl) (hgx : Gl X x := by rfl) (hgy : Gl X y := by rfl)
    (hnx : x ≠ "__name__" := by decide) (hdx : (x == ("__debug__" : Str)) = false := by decide) (hny : y ≠ "__name__" := by decide) (hdy : (y == ("__debug__" : Str)) = false := by decide)
    (he : starEach [e, .Tuple [.Name x p2, .Name y p3] kx p4] X.env = (false, eval e X.env) :: starEach [.Tuple [.Name x p2, .Name y p3] kx p4] X.env := by rfl)
    (he2 : starEach [.Tuple [.Name x p2, .Name y p3] kx p4] X.env = (false, eval (.Tuple [.Name x p2, .Name y p3] kx p4) X.env) :: starEach [] X.env := by rfl)
    (he3 : starEach [.Name x p2, .Name y p3] X.env = (false, eval (.Name x p2) X.env) :: starEach [.Name y p3] X.env := by rfl)
    (he4 : starEach [.Name y p3] X.env = (false, eval (.Name y p3) X.env) :: starEach [] X.env := by rfl)
    (hpl : (backTo pos (starEach [.Tuple [.Name x p2, .Name y p3] kx p4] X.env)).any (·.1) = false := by rfl) :
    GE X (.Call (.Name "isinstance" p) [e, .Tuple [.Name x p2, .Name y p3] kx p4] [] pos) (gIsi2 T U g) := by
  obtain ⟨t, pa, ra⟩ := ha.ex
  refine ⟨_, pe_callB call_isiTE hg hm (by decide +kernel) (pa_cons pa (pa_cons (pe_tup (pa_cons (pe_bltn (v := .ty T) hgx hmx hv rfl hnx hdx) (pa_cons (pe_bltn (v := .ty U) hgy hmy hw rfl hny hdy) pa_nil he4) he3)) pa_nil he2) he) (by decide) (by decide) he hpl, fun A F H S σ d S' Q k h post => ?_⟩
  obtain ⟨⟨d1, S1⟩, h1, h⟩ := bind_inv h
  cases h
  refine ra A F H S σ d1 _ _ k h1 fun A1 F1 H1 v p1 s1 k1 r1 => ?_
  refine ⟨by show 2 ≤ sizeLine; decide, fun q hq => ?_⟩
  have k2 := k1.laid (o := .tup [.ty T, .ty U]) hq
  have s2 : SameT F1 (upd F1 q (.tup [.ty T, .ty U])) := same_upd (k1.sub.none hq)
  refine ⟨v, q, _, _, _, _, rfl, upd_same, .cons (.ty T) (.cons (.ty U) .nil), rp_ty k2.sub.same.t (r1.mono s2 _ _), ?_, post A1 _ _ _ p1 (s1.trans s2) k2 (.bl _)⟩
  refine kitAny_cons (kit_ty (kt d1)) (fun e1 => ?_) (fun e1 => by rw [e1]; rfl)
  rw [e1]
  exact kitAny_cons (kit_ty (ku d1)) (fun e2 => by rw [e2]; exact kitAny_nil) (fun e2 => by rw [e2]; rfl)
end

/-! ### the calls of the text's own defs -/
/-- a def that writes nothing that was there: its value by data -/
def spF (K : PySem.W.Frag) (n : Nat) (f : List D → Option D) : Sp := fun vs H Q _ => ∃ ds z, ds.length = n ∧ Rps K H vs ds ∧ f ds = some z ∧ LamX.Tabs TabsC.T H ∧ ∀ H' v, SameT H H' → Rp K H' v z → Q v H'
theorem spF_len {K : PySem.W.Frag} {n : Nat} {f : List D → Option D} {ps : List Str} (h : ps.length = n) : ∀ vs H Q E, spF K n f vs H Q E → vs.length = ps.length := by
  intro vs H Q E ⟨ds, z, e, r, _⟩
  rw [r.length, e, h]
theorem same_mix {G H G' : Hp} (lost : ∀ b o, H b = some o → G b = none → G' b = none) : Same G' (mixH G H G') := fun b o e => by
  cases q : G b with
  | some u => rw [mix_held q]; exact e
  | none =>
    cases r : H b with
    | none => rw [mix_free r]; exact e
    | some u => rw [lost b u r q] at e; cases e
theorem Ok.mix {K : PySem.W.Frag} {A : List Addr} {F H G' : Hp} {S : Sx} {σ : L2.St} (k : Ok K A F H S σ) (s : SameT F G') (lost : ∀ b o, H b = some o → F b = none → G' b = none) : Ok K A G' (mixH F H G') S σ := by
  refine k.grow ⟨same_mix lost, fun b o e n => ?_⟩ s (fun a ha o e => ?_) fun a ha e => ?_
  · cases q : F b with
    | some u => rw [mix_held q, n] at e; cases e
    | none =>
      cases r : H b with
      | none => rw [mix_free r, n] at e; cases e
      | some u => rw [mix_lost q r] at e; cases e; exact k.sub.loose b _ r q
  · cases q : F a with
    | some u =>
      rw [mix_held q]
      have e2 := k.sub.same a u q
      rw [e] at e2; cases e2
      obtain ⟨_, ho, lo⟩ := k.trk a ha
      rw [e] at ho; cases ho
      exact s.old a _ q lo.nt
    | none => exact mix_lost q e
  · obtain ⟨o, ho, _⟩ := k.trk a ha
    exact lost a o ho e
def gCallF (n : Nat) (f : List D → Option D) (g : M (List D)) : M D := fun S => (g S).bind fun p => if p.1.length = n then (f p.1).bind fun z => some (z, p.2) else none
section
variable {X : Cx} {pos p p2 : Pos} {x : Str} {e : Expr} {es : List Expr} {gs : M (List D)} {f : List D → Option D} {CX : CXT} {k n : Nat} {fa : Addr} {fd : FuncData} {ps : List Str} {E : XK}
theorem e_call (F : FnOk X.prog X.w X.K X.mg X.base CX k fa fd ps (spF X.K n f)) (hr : Room k X.A) (hm : X.mg x = some (.ref fa)) (hk : PySem.W.keepIn X.K (.ref fa) = true) (hb : L2.Binds X.K fd ps []) (hx : Passes CX X E) (ha : GA X (e :: es) gs)
    (hg : Gl X x := by rfl) (hdb : (x == ("__debug__" : Str)) = false := by decide) (he : starEach (e :: es) X.env = (false, eval e X.env) :: starEach es X.env := by rfl) (hpl : (backTo pos (starEach es X.env)).any (·.1) = false := by rfl) :
    GE X (.Call (.Name x p) (e :: es) [] pos) (gCallF n f gs) := by
  obtain ⟨t, pa, ra⟩ := ha.ex
  refine ⟨_, pe_callF F hr hg hm hk hb .nil hx pa hdb he hpl, fun A F H S σ d S' Q k h post => ?_⟩
  obtain ⟨⟨ds, S1⟩, h1, h⟩ := bind_inv h
  simp only at h
  split at h
  · rename_i hn
    obtain ⟨z, h2, h⟩ := bind_inv h
    cases h
    refine ra A F H S σ ds _ _ k h1 fun A1 F1 H1 vs p1 s1 k1 r1 => ⟨F1, k1.sub, ds, _, hn, by rw [List.append_nil]; exact r1, h2, k1.tab, fun G' v sm rv => ⟨fun b xs q => sm.old b _ q trivial, fun lost => ?_⟩⟩
    exact post A1 G' _ v p1 (s1.trans sm) (k1.mix sm lost) rv
  · cases h
/-- a def that writes one list that is handed in, the first argument -/
def spIO (K : PySem.W.Frag) (n : Nat) (f : List D → List D → Option (D × List D)) : Sp := fun vs H Q _ => ∃ (a : Addr) (xs : List V) (rest : List V) (F : Hp) (cs ds : List D) (r : D) (cs' : List D), vs = .ref a :: rest ∧ F a = none ∧ H = upd F a (.lst xs) ∧ cs.length ≤ sizeLine ∧
  Rps K F xs cs ∧ Rps K F rest ds ∧ ds.length = n ∧ f cs ds = some (r, cs') ∧ LamX.Tabs TabsC.T F ∧ ∀ F' xs' v, SameT F F' → F' a = none → Rps K F' xs' cs' → cs'.length ≤ sizeLine → Rp K F' v r → Q v (upd F' a (.lst xs'))
theorem spIO_len {K : PySem.W.Frag} {n : Nat} {f : List D → List D → Option (D × List D)} {ps : List Str} (h : ps.length = n + 1) : ∀ vs H Q E, spIO K n f vs H Q E → vs.length = ps.length := by
  intro vs H Q E ⟨a, xs, rest, F, cs, ds, r, cs', e, _, _, _, _, hr, hn, _⟩
  rw [e, List.length_cons, hr.length, hn, h]
def gIO (i n : Nat) (f : List D → List D → Option (D × List D)) (g : M (List D)) : M D := fun S => match S.sl[i]? with
  | some (some (.own j)) => (g S).bind fun p => match p.2.os[j]? with
    | some (some (.lst cs)) => if p.1.length = n then (f cs p.1).bind fun z => some (z.1, ⟨p.2.sl, p.2.os.set j (some (.lst z.2))⟩) else none
    | _ => none
  | _ => none
theorem prefix_at {α : Type} {A B : List α} {j : Nat} {a : α} (p : A <+: B) (h : A[j]? = some a) : B[j]? = some a := by
  obtain ⟨C, rfl⟩ := p
  rw [List.getElem?_append_left (List.getElem?_eq_some_iff.mp h).1]; exact h
theorem e_callIO {f : List D → List D → Option (D × List D)} {y : Str} {py : Pos} (i : Nat) (F : FnOk X.prog X.w X.K X.mg X.base CX k fa fd ps (spIO X.K n f)) (hr : Room k X.A) (hm : X.mg x = some (.ref fa)) (hk : PySem.W.keepIn X.K (.ref fa) = true) (hb : L2.Binds X.K fd ps []) (hx : Passes CX X E) (ha : GA X es gs)
    (hN : X.N[i]? = some y := by rfl) (hv : Vis X.env.scope y := by first | exact Or.inl rfl | exact Or.inr (Or.inl rfl) | exact Or.inr (Or.inr rfl)) (hdy : (y == ("__debug__" : Str)) = false := by decide) (hcd : (y == ("__classdict__" : Str)) = false := by decide)
    (hg : Gl X x := by rfl) (hdb : (x == ("__debug__" : Str)) = false := by decide) (he : starEach (.Name y py :: es) X.env = (false, eval (.Name y py) X.env) :: starEach es X.env := by rfl) (hpl : (backTo pos (starEach es X.env)).any (·.1) = false := by rfl) :
    GE X (.Call (.Name x p) (.Name y py :: es) [] pos) (gIO i n f gs) := by
  obtain ⟨t, pa, ra⟩ := ha.ex
  refine ⟨_, pe_callF F hr hg hm hk hb .nil hx (pa_cons (pe_var hN hv hdy hcd) pa he) hdb he hpl, fun A F H S σ d S' Q k h post => ?_⟩
  unfold gIO at h
  split at h
  · rename_i j ej
    obtain ⟨⟨ds, S1⟩, h1, h⟩ := bind_inv h
    simp only at h
    split at h
    · rename_i cs ec
      split at h
      · rename_i hn
        obtain ⟨⟨r, cs'⟩, h2, h⟩ := bind_inv h
        cases h
        obtain ⟨a, ea, ev⟩ := k.oslot i j ej
        refine ⟨_, ev, ra A F H S σ ds S1 _ k h1 fun A1 F1 H1 vs p1 s1 k1 r1 => ?_⟩
        obtain ⟨a', ea', fa', xs, hxs, rxs, hz⟩ := k1.cell j _ ec
        rw [prefix_at p1 ea] at ea'; cases ea'
        have sub1 : Sub (upd F1 a (.lst xs)) H1 := ⟨fun b u q => by
            by_cases hb : b = a
            · subst hb; rw [upd_same] at q; cases q; exact hxs
            · rw [upd_ne hb] at q; exact k1.sub.same b u q, fun b u q n => by
            by_cases hb : b = a
            · subst hb; rw [upd_same] at n; cases n
            · rw [upd_ne hb] at n; exact k1.sub.loose b u q n⟩
        refine ⟨upd F1 a (.lst xs), sub1, a, xs, vs, F1, cs, ds, r, cs', by rw [List.append_nil], fa', rfl, hz, rxs, r1, hn, h2, k1.tab, fun F' xs' v sm fa2 rx hz' rv => ⟨fun b ys q => ?_, fun lost => ?_⟩⟩
        · by_cases hb : b = a
          · subst hb; rw [upd_same] at q; cases q
          · rw [upd_ne hb] at q ⊢; exact sm.old b _ q trivial
        · have lostF : ∀ b o, b ≠ a → H1 b = some o → F1 b = none → F' b = none := fun b o hb ho hf => by
            have := lost b o ho (by rw [upd_ne hb]; exact hf)
            rwa [upd_ne hb] at this
          have ma : mixH (upd F1 a (.lst xs)) H1 (upd F' a (.lst xs')) a = some (.lst xs') := by rw [mix_held upd_same, upd_same]
          have mb : ∀ b, b ≠ a → mixH (upd F1 a (.lst xs)) H1 (upd F' a (.lst xs')) b = mixH F1 H1 F' b := fun b hb => by
            unfold mixH
            rw [upd_ne hb, upd_ne hb]
          have km : Ok X.K A1 F' (upd (mixH F1 H1 F') a (.lst xs')) ⟨S1.sl, S1.os.set j (some (.lst cs'))⟩ σ := by
            have e1 : Ok X.K A1 F' (mixH F1 H1 F') S1 σ := by
              refine k1.mix sm fun b o ho hf => ?_
              by_cases hb : b = a
              · subst hb; exact fa2
              · exact lostF b o hb ho hf
            exact e1.cellSet ec (prefix_at p1 ea) trivial ⟨xs', upd_same, rx, hz'⟩
          have em : mixH (upd F1 a (.lst xs)) H1 (upd F' a (.lst xs')) = upd (mixH F1 H1 F') a (.lst xs') := by
            funext b
            by_cases hb : b = a
            · subst hb; rw [ma, upd_same]
            · rw [mb b hb, upd_ne hb]
          rw [em]
          exact post A1 F' _ v p1 (s1.trans sm) km rv
      · cases h
    · cases h
  · cases h
end
end Fu

set_option maxHeartbeats 4000000
namespace Fu
open PySem PySem.Spec PyProof.Rows L2 RZ
variable [TabsC]

/-! ### what is walked -/
/-- J yields the data ds, one by one, wherever F stands -/
structure Walk (K : PySem.W.Frag) (F : Hp) (J : It) (ds : List D) : Prop where
  stop : ∀ i H, SameT F H → ds.length ≤ i → J.stop i H
  go : ∀ i H, SameT F H → i < ds.length → J.go i H
  yld : ∀ (i : Nat) d H x H', SameT F H → ds[i]? = some d → J.yld i H x H' → (H' = H ∧ Rp K F x d) ∨ ∃ T vs es, x = .ref T ∧ H T = none ∧ H' = upd H T (.tup vs) ∧ d = .tuple es ∧ Rps K F vs es ∧ es.length ≤ sizeLine
def RdI (K : PySem.W.Frag) (t : TI) (g : M (List D)) : Prop := ∀ A F H S σ ds S' (R : It → Hp → Prop), Ok K A F H S σ → g S = some (ds, S') →
  (∀ A' F' H' J, A <+: A' → SameT F F' → Ok K A' F' H' S' σ → Walk K F' J ds → ds.length ≤ sizeLine → R J H') → t σ H R
structure GI (X : Cx) (tg iter : Expr) (g : M (List D)) : Prop where
  ex : ∃ t, PI X tg iter t ∧ RdI X.K t g
/-- .. of numbers alone: they stand in any heap -/
structure GI0 (X : Cx) (tg iter : Expr) (g : M (List D)) : Prop where
  ex : ∃ t, PI X tg iter t ∧ ∀ A F H S σ ds S' (R : It → Hp → Prop), Ok X.K A F H S σ → g S = some (ds, S') →
    (∀ A' F' H' J, A <+: A' → SameT F F' → Ok X.K A' F' H' S' σ → Walk X.K (fun _ => none) J ds → R J H') → t σ H R
theorem PI.or {X : Cx} {tg iter : Expr} {t u : TI} (h1 : PI X tg iter t) (h2 : PI X tg iter u) : PI X tg iter (fun σ H R => t σ H R ∨ u σ H R) :=
  ⟨fun pins s σ H R I h => h.elim (h1.run pins s σ H R I) (h2.run pins s σ H R I)⟩
section
variable {K : PySem.W.Frag} {F : Hp}
theorem walk_list {a : Addr} {vs : List V} {ds : List D} (h : F a = some (.lst vs)) (r : Rps K F vs ds) : Walk K F (Itl K a) ds where
  stop := fun i H s hi => ⟨vs, SqL.of (s.old _ _ h trivial), by rw [r.length]; exact hi⟩
  go := fun i H s hi => by
    obtain ⟨v, e, _⟩ := r.get (List.getElem?_eq_getElem hi)
    exact ⟨vs, v, SqL.of (s.old _ _ h trivial), e⟩
  yld := fun i d H x H' s hd y => by
    obtain ⟨e, y⟩ := y
    obtain ⟨v, ev, rv⟩ := r.get hd
    have := y vs (SqL.of (s.old _ _ h trivial))
    rw [ev] at this; cases this
    exact .inl ⟨e, rv⟩
theorem walk_tup {a : Addr} {vs : List V} {ds : List D} (h : SqT K F a vs) (r : Rps K F vs ds) : Walk K F (Itt K a) ds where
  stop := fun i H s hi => ⟨vs, sqT_same s h, by rw [r.length]; exact hi⟩
  go := fun i H s hi => by
    obtain ⟨v, e, _⟩ := r.get (List.getElem?_eq_getElem hi)
    exact ⟨vs, v, sqT_same s h, e⟩
  yld := fun i d H x H' s hd y => by
    obtain ⟨e, y⟩ := y
    obtain ⟨v, ev, rv⟩ := r.get hd
    have := y vs (sqT_same s h)
    rw [ev] at this; cases this
    exact .inl ⟨e, rv⟩
def chars (x : Str) : List D := x.cps.toList.map fun c => .str ⟨#[c]⟩
theorem walk_str (x : Str) : Walk K F (Its x) (chars x) where
  stop := fun i H s hi => by
    have : x.cps.size ≤ i := by simpa [chars] using hi
    exact this
  go := fun i H s hi => by
    have : i < x.cps.size := by simpa [chars] using hi
    exact this
  yld := fun i d H v H' s hd y => by
    obtain ⟨e, c, hc, rfl⟩ := y
    have h2 : x.cps.toList[i]? = some c := by rw [Array.getElem?_toList]; exact hc
    unfold chars at hd
    rw [List.getElem?_map, h2] at hd
    cases hd
    exact .inl ⟨e, .str (one_len c)⟩
def rng (lo : Int) (n : Nat) : List D := (List.range n).map fun i : Nat => .int (lo + (i : Int))
theorem walk_range (lo : Int) (n : Nat) : Walk K F (Itr lo n) (rng lo n) where
  stop := fun i H s hi => by
    have : n ≤ i := by simpa [rng] using hi
    exact this
  go := fun i H s hi => by
    have : i < n := by simpa [rng] using hi
    exact this
  yld := fun i d H v H' s hd y => by
    obtain ⟨e, rfl⟩ := y
    unfold rng at hd
    rw [List.getElem?_map] at hd
    obtain ⟨j, hj, rfl⟩ := Option.map_eq_some_iff.mp hd
    rw [List.getElem?_range (by
      have := (List.getElem?_eq_some_iff.mp hj).1
      simpa using this)] at hj
    cases hj
    exact .inl ⟨e, .int _⟩
end
def itemsOf : D → Option (List D)
  | .list xs => some xs
  | .tuple xs => some xs
  | .str x => some (chars x)
  | _ => none
/-- the items of a list, a tuple, a text -/
def gItems (g : M D) : M (List D) := fun S => (g S).bind fun p => (itemsOf p.1).bind fun xs => some (xs, p.2)
section
variable {X : Cx} {tg e e2 e3 : Expr} {ge ge2 : M D} {pos p p2 : Pos} {gs : M (List D)}
theorem chars_len {x : Str} (h : x.length ≤ sizeLine) : (chars x).length ≤ sizeLine := by
  unfold chars
  rw [List.length_map, Array.length_toList]
  exact h
theorem i_any (h : GE X e ge) : GI X tg e (gItems ge) := by
  obtain ⟨t, pe, re⟩ := h.ex
  refine ⟨_, PI.or (pi_list pe) (PI.or (pi_tup pe) (pi_str pe)), fun A F H S σ ds S' R k e post => ?_⟩
  obtain ⟨⟨d, S1⟩, h1, e⟩ := bind_inv e
  obtain ⟨xs, h2, e⟩ := bind_inv e
  cases e
  cases d <;> simp only [itemsOf] at h2 <;> cases h2
  · refine .inr (.inr (re A F H S σ _ _ _ k h1 fun A1 F1 H1 v p1 s1 k1 r1 => ?_))
    obtain ⟨rfl, hz⟩ := rp_str_inv r1
    exact ⟨_, rfl, post A1 F1 H1 _ p1 s1 k1 (walk_str _) (chars_len hz)⟩
  · refine .inl (re A F H S σ _ _ _ k h1 fun A1 F1 H1 v p1 s1 k1 r1 => ?_)
    obtain ⟨a, vs, rfl, g1, g2, g3⟩ := rp_list_inv r1
    exact ⟨a, rfl, ⟨vs, SqL.of (k1.sub.same _ _ g1)⟩, post A1 F1 H1 _ p1 s1 k1 (walk_list g1 g2) g3⟩
  · refine .inr (.inl (re A F H S σ _ _ _ k h1 fun A1 F1 H1 v p1 s1 k1 r1 => ?_))
    obtain ⟨a, vs, rfl, g1, g2, g3⟩ := rp_tup_inv r1
    exact ⟨a, rfl, ⟨vs, sqT_same k1.sub.same.t g1⟩, post A1 F1 H1 _ p1 s1 k1 (walk_tup g1 g2) g3⟩
/-- range(n), range(a, b) -/
def gRng1 (g : M (List D)) : M (List D) := fun S => (g S).bind fun p => match p.1 with
  | [.int j] => if -(2 ^ 62) ≤ j ∧ j ≤ sizeLine then some (rng 0 j.toNat, p.2) else none
  | _ => none
def gRng2 (g : M (List D)) : M (List D) := fun S => (g S).bind fun p => match p.1 with
  | [.int i, .int j] => if -(2 ^ 32) ≤ i ∧ i ≤ 2 ^ 32 ∧ -(2 ^ 32) ≤ j ∧ j ≤ 2 ^ 32 ∧ j - i ≤ sizeLine then some (rng i (j - i).toNat, p.2) else none
  | _ => none
theorem rng_len (lo : Int) (n : Nat) : (rng lo n).length = n := by simp [rng]
theorem rps_int1 {K : PySem.W.Frag} {F : Hp} {vs : List V} {i : Int} (r : Rps K F vs [.int i]) : vs = [.int i] := by
  obtain ⟨v, rfl, q⟩ := rps1 r
  cases rp_int_inv q; rfl
theorem line_int : (sizeLine : Int) < 2 ^ 32 := by rw [sizeLine_eq]; decide
theorem rd_rng1 {K : PySem.W.Frag} {ta : TA} (ra : RdA K ta gs) : ∀ A F H S σ ds S' (R : It → Hp → Prop), Ok K A F H S σ → gRng1 gs S = some (ds, S') →
    (∀ A' F' H' J, A <+: A' → SameT F F' → Ok K A' F' H' S' σ → (∀ G, Walk K G J ds) → ds.length ≤ sizeLine → R J H') → iRng1 ta σ H R := by
  intro A F H S σ ds S' R k e post
  obtain ⟨⟨xs, S1⟩, h1, e⟩ := bind_inv e
  simp only at e
  split at e
  · split at e
    · rename_i j hj
      cases e
      refine ra A F H S σ _ _ _ k h1 fun A1 F1 H1 vs p1 s1 k1 r1 => ?_
      have hl := line_int
      exact ⟨j, rps_int1 r1, hj.1, by omega, post A1 F1 H1 _ p1 s1 k1 (fun G => walk_range 0 _) (by rw [rng_len]; omega)⟩
    · cases e
  · cases e
theorem i_range1 (hm : X.mg "range" = none) (ha : GA X [e] gs) (hg : Gl X "range" := by rfl) (hs : starEach [e] X.env = [(false, eval e X.env)] := by rfl) : GI X tg (.Call (.Name "range" p) [e] [] pos) (gRng1 gs) := by
  obtain ⟨t, pa, ra⟩ := ha.ex
  exact ⟨_, pi_range1 hg hm pa hs, fun A F H S σ ds S' R k e post => rd_rng1 ra A F H S σ ds S' R k e fun A1 F1 H1 J p1 s1 k1 w hz => post A1 F1 H1 J p1 s1 k1 (w _) hz⟩
theorem i0_range1 (hm : X.mg "range" = none) (ha : GA X [e] gs) (hg : Gl X "range" := by rfl) (hs : starEach [e] X.env = [(false, eval e X.env)] := by rfl) : GI0 X tg (.Call (.Name "range" p) [e] [] pos) (gRng1 gs) := by
  obtain ⟨t, pa, ra⟩ := ha.ex
  exact ⟨_, pi_range1 hg hm pa hs, fun A F H S σ ds S' R k e post => rd_rng1 ra A F H S σ ds S' R k e fun A1 F1 H1 J p1 s1 k1 w hz => post A1 F1 H1 J p1 s1 k1 (w _)⟩
end

/-! ### targets: names, tuples of them -/
def RdG (K : PySem.W.Frag) (tgt : List Nat) (t : TG) (g : D → Sx → Option Sx) : Prop := ∀ A F H S σ v d S' (Q : L2.St → Hp → Prop), Ok K A F H S σ → Rp K F v d → g d S = some S' →
  (∀ A' F' H' σ', A <+: A' → SameT F F' → Ok K A' F' H' S' σ' → (∀ vs, (∀ i ∈ tgt, i ∈ vs) → wipe σ' vs = wipe σ vs) → Q σ' H') → t v σ H Q
def RdGs (K : PySem.W.Frag) (tgt : List Nat) (t : TGs) (g : List D → Sx → Option Sx) : Prop := ∀ A F H S σ vs ds S' (Q : L2.St → Hp → Prop), Ok K A F H S σ → Rps K F vs ds → g ds S = some S' →
  (∀ A' F' H' σ', A <+: A' → SameT F F' → Ok K A' F' H' S' σ' → (∀ vs, (∀ i ∈ tgt, i ∈ vs) → wipe σ' vs = wipe σ vs) → Q σ' H') → t vs σ H Q
structure GG (X : Cx) (tgt : List Nat) (e : Expr) (g : D → Sx → Option Sx) : Prop where
  ex : ∃ t, PG X e t ∧ RdG X.K tgt t g
structure GGs (X : Cx) (tgt : List Nat) (es : List Expr) (g : List D → Sx → Option Sx) : Prop where
  ex : ∃ t, PGs X es t ∧ RdGs X.K tgt t g
def sName (i : Nat) : D → Sx → Option Sx := fun d S => some ⟨S.sl.set i (some (.dat d)), S.os⟩
def sNil : List D → Sx → Option Sx := fun ds S => match ds with
  | [] => some S
  | _ => none
def sCons (g : D → Sx → Option Sx) (gs : List D → Sx → Option Sx) : List D → Sx → Option Sx := fun ds S => match ds with
  | d :: ds => (g d S).bind fun S1 => gs ds S1
  | [] => none
def sTup (n : Nat) (gs : List D → Sx → Option Sx) : D → Sx → Option Sx := fun d S => match d with
  | .tuple ds => if ds.length = n then gs ds S else none
  | _ => none
theorem wipe_set {σ : L2.St} {i : Nat} {x : Option V} : ∀ {vs : List Nat}, i ∈ vs → wipe (σ.set i x) vs = wipe σ vs
  | v :: vs, h => by
    unfold wipe
    by_cases hv : i = v
    · subst hv
      by_cases hm : i ∈ vs
      · rw [wipe_set hm]
      · have comm : ∀ ws : List Nat, i ∉ ws → wipe (σ.set i x) ws = (wipe σ ws).set i x := by
          intro ws
          induction ws with
          | nil => intro _; rfl
          | cons w ws ih =>
            intro hn
            simp only [List.mem_cons, not_or] at hn
            unfold wipe
            rw [ih hn.2, List.set_comm _ _ hn.1]
        rw [comm vs hm, List.set_set]
    · rcases List.mem_cons.mp h with e | h
      · exact absurd e hv
      · rw [wipe_set h]
section
variable {X : Cx} {pos : Pos} {e : Expr} {es : List Expr} {n : Nat} {tg ts : List Nat} {g : D → Sx → Option Sx} {gs : List D → Sx → Option Sx}
theorem g_name (i : Nat) {x : Str} (hN : X.N.Nodup) (hx : Loc X.env.scope x := by first | exact Or.inl rfl | exact Or.inr rfl) (hi : X.N[i]? = some x := by rfl) (hf : X.fn x = true ∨ X.env.scope.names.lookup x = some .local := by first | exact .inl rfl | exact .inr rfl | assumption) : GG X [i] (.Name x pos) (sName i) :=
  ⟨_, pg_name hN hi hx hf, fun A F H S σ v d S' Q k r e post => by
    cases e
    exact post A F H _ (List.prefix_refl _) (SameT.refl F) (k.setDat r) fun vs h => wipe_set (h i (by simp))⟩
theorem gs_nil : GGs X [] [] sNil := ⟨_, pgs_nil, fun A F H S σ vs ds S' Q k r e post => by
  cases ds with
  | cons _ _ => cases e
  | nil => cases e; cases r; exact ⟨rfl, post A F H σ (List.prefix_refl _) (SameT.refl F) k fun _ _ => rfl⟩⟩
theorem gs_cons (h1 : GG X tg e g) (h2 : GGs X ts es gs) (hs : (assignEach (e :: es) X.env).map (·.2) = assign e X.env :: (assignEach es X.env).map (·.2) := by rfl) : GGs X (tg ++ ts) (e :: es) (sCons g gs) := by
  obtain ⟨t, p1, r1⟩ := h1.ex
  obtain ⟨u, p2, r2⟩ := h2.ex
  refine ⟨_, pgs_cons p1 p2 hs, fun A F H S σ vs ds S' Q k r e post => ?_⟩
  cases ds with
  | nil => cases e
  | cons d ds =>
    cases r with
    | cons ra rb =>
      obtain ⟨S1, e1, e⟩ := bind_inv e
      refine ⟨_, _, rfl, r1 A F H S σ _ d S1 _ k ra e1 fun A1 F1 H1 σ1 q1 s1 k1 w1 => r2 A1 F1 H1 S1 σ1 _ ds S' Q k1 (Rps.mono s1 _ _ rb) e fun A2 F2 H2 σ2 q2 s2 k2 w2 => ?_⟩
      exact post A2 F2 H2 σ2 (q1.trans q2) (s1.trans s2) k2 fun vs h => (w2 vs fun i hi => h i (List.mem_append_right _ hi)).trans (w1 vs fun i hi => h i (List.mem_append_left _ hi))
theorem g_tup {k} (h : GGs X ts es gs) (hc : X.calm = true := by rfl) (hn : (assignEach es X.env).length = n := by rfl) (hst : (assignEach es X.env).findIdx? (·.1) = none := by rfl) : GG X ts (.Tuple es k pos) (sTup n gs) := by
  obtain ⟨t, p1, r1⟩ := h.ex
  refine ⟨_, pg_tup hc p1 hn hst, fun A F H S σ v d S' Q k r e post => ?_⟩
  cases d <;> simp only [sTup] at e <;> try cases e
  split at e
  · rename_i hl
    obtain ⟨a, vs, rfl, g1, g2, g3⟩ := rp_tup_inv r
    exact ⟨a, vs, rfl, sqT_same k.sub.same.t g1, by rw [g2.length]; exact hl, r1 A F H S σ vs _ S' Q k g2 e post⟩
  · cases e
end
end Fu

set_option maxHeartbeats 4000000
namespace Fu
open PySem PySem.Spec PyProof.Rows L2 RZ
variable [TabsC]

/-! ### slots of a comprehension's own names -/
def wipeS (sl : List (Option R)) : List Nat → List (Option R)
  | [] => sl
  | v :: vs => (wipeS sl vs).set v none
def backS (old new : List (Option R)) : List Nat → List (Option R)
  | [] => new
  | v :: vs => match old[v]? with
    | some x => (backS old new vs).set v x
    | none => backS old new vs
theorem wipeS_len (sl : List (Option R)) : ∀ vs, (wipeS sl vs).length = sl.length
  | [] => rfl
  | v :: vs => by unfold wipeS; rw [List.length_set, wipeS_len sl vs]
theorem backS_len (old new : List (Option R)) : ∀ vs, (backS old new vs).length = new.length
  | [] => rfl
  | v :: vs => by
    unfold backS
    split
    · rw [List.length_set, backS_len old new vs]
    · exact backS_len old new vs
theorem wipeS_in {sl : List (Option R)} {i : Nat} {r : R} : ∀ {vs : List Nat}, (wipeS sl vs)[i]? = some (some r) → sl[i]? = some (some r) ∧ i ∉ vs
  | [], h => ⟨h, by simp⟩
  | v :: vs, h => by
    unfold wipeS at h
    by_cases hi : v = i
    · subst hi
      by_cases hv : v < (wipeS sl vs).length
      · rw [List.getElem?_set_self hv] at h; cases h
      · rw [List.getElem?_eq_none (by simpa using hv)] at h; cases h
    · rw [List.getElem?_set_ne hi] at h
      obtain ⟨h1, h2⟩ := wipeS_in h
      exact ⟨h1, by simp only [List.mem_cons, not_or]; exact ⟨fun e => hi e.symm, h2⟩⟩
theorem wipeS_out {sl : List (Option R)} {i : Nat} : ∀ {vs : List Nat}, i ∉ vs → (wipeS sl vs)[i]? = sl[i]?
  | [], _ => rfl
  | v :: vs, h => by
    simp only [List.mem_cons, not_or] at h
    unfold wipeS
    rw [List.getElem?_set_ne (Ne.symm h.1), wipeS_out h.2]
theorem wipe_outV {σ : L2.St} {i : Nat} : ∀ {vs : List Nat}, i ∉ vs → (wipe σ vs)[i]? = σ[i]?
  | [], _ => rfl
  | v :: vs, h => by
    simp only [List.mem_cons, not_or] at h
    unfold wipe
    rw [List.getElem?_set_ne (Ne.symm h.1), wipe_outV h.2]
theorem backS_in {old new : List (Option R)} {i : Nat} : ∀ {vs : List Nat}, old.length = new.length → (backS old new vs)[i]? = if i ∈ vs then old[i]? else new[i]?
  | [], _ => by simp [backS]
  | v :: vs, h => by
    have ih := backS_in (i := i) (vs := vs) h
    unfold backS
    by_cases hv : v = i
    · subst hv
      simp only [List.mem_cons, true_or, if_true]
      cases e : old[v]? with
      | none =>
        show (backS old new vs)[v]? = none
        rw [ih]
        have hl : new[v]? = none := List.getElem?_eq_none (by rw [← h]; exact List.getElem?_eq_none_iff.mp e)
        split
        · exact e
        · exact hl
      | some x =>
        show ((backS old new vs).set v x)[v]? = some x
        rw [List.getElem?_set_self]
        rw [backS_len, ← h]
        exact (List.getElem?_eq_some_iff.mp e).1
    · have e2 : (match old[v]? with | some x => (backS old new vs).set v x | none => backS old new vs)[i]? = (backS old new vs)[i]? := by
        split
        · rw [List.getElem?_set_ne hv]
        · rfl
      rw [e2, ih]
      have : (i ∈ v :: vs) ↔ i ∈ vs := by
        simp only [List.mem_cons]
        exact ⟨fun z => z.elim (fun e => absurd e.symm hv) id, .inr⟩
      by_cases hm : i ∈ vs
      · rw [if_pos hm, if_pos (this.mpr hm)]
      · rw [if_neg hm, if_neg (fun z => hm (this.mp z))]
section
variable {K : PySem.W.Frag} {A A' : List Addr} {F F' G H : Hp} {S S' : Sx} {σ τ : L2.St}
theorem Ok.wipe {vs : List Nat} (k : Ok K A F H S τ) (e : L2.wipe τ vs = L2.wipe σ vs) : Ok K A F H ⟨wipeS S.sl vs, S.os⟩ (L2.wipe σ vs) := by
  refine ⟨k.sub, by rw [wipeS_len, k.len, ← e, wipe_length], k.alen, k.nd, fun i r h => ?_, k.cell, k.trk, k.tab⟩
  obtain ⟨h1, h2⟩ := wipeS_in h
  obtain ⟨v, e1, q⟩ := k.rslot i r h1
  exact ⟨v, by rw [← e, wipe_outV h2]; exact e1, q⟩
theorem Ok.back {vs : List Nat} (k0 : Ok K A F H S σ) (k : Ok K A' F' G ⟨wipeS S'.sl vs, S'.os⟩ (L2.wipe σ vs)) (p : A <+: A') (s : SameT F F') : Ok K A' F' G ⟨backS S.sl S'.sl vs, S'.os⟩ σ := by
  have hl : S.sl.length = S'.sl.length := by
    have := k.len
    rw [wipeS_len, wipe_length] at this
    rw [k0.len, this]
  refine ⟨k.sub, by rw [backS_len, ← hl]; exact k0.len, k.alen, k.nd, fun i r h => ?_, k.cell, k.trk, k.tab⟩
  simp only at h
  rw [backS_in hl] at h
  by_cases hi : i ∈ vs
  · rw [if_pos hi] at h
    obtain ⟨v, e1, q⟩ := k0.rslot i r h
    exact ⟨v, e1, q.mono p s _ _⟩
  · rw [if_neg hi] at h
    obtain ⟨v, e1, q⟩ := k.rslot i r (by simp only; rw [wipeS_out hi]; exact h)
    rw [wipe_outV hi] at e1
    exact ⟨v, e1, q⟩
/-- one list over a heap: what may be forgotten -/
theorem sub_one {p : Addr} {o : HO} (h : G p = none) (l : Loose o) : Sub G (upd G p o) := ⟨fun b u e => by rw [upd_ne (ne_of_none e h)]; exact e, fun b u e n => by
  by_cases hb : b = p
  · subst hb; rw [upd_same] at e; cases e; exact l
  · rw [upd_ne hb, n] at e; cases e⟩
theorem mix_one {G' : Hp} {p : Addr} {o : HO} (h : G p = none) (h' : G' p = none) : mixH G (upd G p o) G' = upd G' p o := by
  funext b
  by_cases hb : b = p
  · subst hb
    rw [mix_lost h upd_same, upd_same]
  · rw [upd_ne hb]
    cases q : G b with
    | some u => exact mix_held q
    | none => exact mix_free (by rw [upd_ne hb]; exact q)
end

/-! ### tests of a comprehension -/
structure GTs (X : Cx) (ifs : List Expr) (g : M Bool) : Prop where
  ex : ∃ t, PTs X ifs t ∧ RdT X.K t g
def gYes : M Bool := fun S => some (true, S)
theorem ts_nil {X : Cx} : GTs X [] gYes := ⟨_, pts_nil, fun A F H S σ b S' Q k e post => by cases e; exact post A F H (List.prefix_refl _) (SameT.refl F) k⟩
theorem ts_one {X : Cx} {c : Expr} {g : M Bool} (h : GT X c g) : GTs X [c] g := let ⟨_, p, r⟩ := h.ex; ⟨_, pts_one p, r⟩

/-! ### the turns of a comprehension -/
def gTurns (gg : D → Sx → Option Sx) (gt : M Bool) (ge : M D) (vs : List Nat) : List D → Sx → Option (List D × Sx)
  | [], S => some ([], S)
  | d :: ds, S => (gg d ⟨wipeS S.sl vs, S.os⟩).bind fun S1 => (gt S1).bind fun p =>
    if p.1 = true then (ge p.2).bind fun q => (gTurns gg gt ge vs ds q.2).bind fun r => some (q.1 :: r.1, r.2)
    else gTurns gg gt ge vs ds p.2
def gLc (gi : M (List D)) (gg : D → Sx → Option Sx) (gt : M Bool) (ge : M D) (vs : List Nat) : M D := fun S => (gi S).bind fun p => (gTurns gg gt ge vs p.1 p.2).bind fun r => some (.list r.1, ⟨backS p.2.sl r.2.sl vs, r.2.os⟩)
section
variable {K : PySem.W.Frag}
/-- a new list that is nobody's yet -/
def RdN (K : PySem.W.Frag) (t : TE) (g : M D) : Prop := ∀ A F H S σ d S' (Q : VK), Ok K A F H S σ → g S = some (d, S') →
  (∀ A' F' G p vs ds, A <+: A' → SameT F F' → Ok K A' F' G S' σ → G p = none → d = .list ds → Rps K F' vs ds → ds.length ≤ sizeLine → Q (.ref p) (upd G p (.lst vs))) → t σ H Q
theorem RdN.e {t : TE} {g : M D} (h : RdN K t g) : RdE K t g := by
  intro A F H S σ d S' Q k e post
  refine h A F H S σ d S' Q k e fun A1 F1 G p vs ds p1 s1 k1 hp ed r hz => ?_
  subst ed
  obtain ⟨s2, k2, r2⟩ := k1.newList hp r hz
  exact post A1 _ _ _ p1 (s1.trans s2) k2 r2
theorem rd_lc {wi : TI} {g : TG} {tt : TT} {te : TE} {gi : M (List D)} {gg : D → Sx → Option Sx} {gt : M Bool} {ge : M D} {tgt vs : List Nat} (hi : RdI K wi gi) (hg : RdG K tgt g gg) (ht : RdT K tt gt) (he : RdE K te ge) (hv : ∀ i ∈ tgt, i ∈ vs) :
    RdN K (tLc wi (gFr g) (tFrT tt) (tFr te) vs) (gLc gi gg gt ge vs) := by
  intro A F H S σ d S' Q k e post
  obtain ⟨⟨ds, S1⟩, e1, e⟩ := bind_inv e
  obtain ⟨⟨rs, S2⟩, e2, e⟩ := bind_inv e
  cases e
  refine hi A F H S σ ds S1 _ k e1 fun A1 F1 H1 J p1 s1 k1 w hz => fun L hL => ?_
  refine ⟨fun i m H => m = ds.length - i ∧ i ≤ ds.length ∧ ∃ A F G S acc us rest, SameT F1 F ∧ A1 <+: A ∧ Ok K A F G ⟨wipeS S.sl vs, S.os⟩ (wipe σ vs) ∧ G L = none ∧ H = upd G L (.lst us) ∧ Rps K F us acc ∧ acc.length ≤ i ∧
    gTurns gg gt ge vs (ds.drop i) S = some (rest, S2) ∧ acc ++ rest = rs, ⟨ds.length, by simp, Nat.zero_le _, A1, F1, H1, S1, [], [], rs, SameT.refl _, List.prefix_refl _, k1.wipe rfl, hL, rfl, .nil, Nat.le_refl _, by simpa using e2, rfl⟩, ?_⟩
  rintro i m H ⟨rfl, hil, A2, F2, G2, S3, acc, us, rest, s2, p2, k2, hG, rfl, ru, hla, et, ea⟩
  have sFH : SameT F1 (upd G2 L (.lst us)) := (s2.trans k2.sub.same.t).trans (same_upd hG)
  by_cases hlt : i < ds.length
  · refine .inr ⟨w.go i _ sFH hlt, fun H' => i + 1 ≤ ds.length ∧ ∃ A F G S acc us rest, SameT F1 F ∧ A1 <+: A ∧ Ok K A F G ⟨wipeS S.sl vs, S.os⟩ (wipe σ vs) ∧ G L = none ∧ H' = upd G L (.lst us) ∧ Rps K F us acc ∧ acc.length ≤ i + 1 ∧
      gTurns gg gt ge vs (ds.drop (i + 1)) S = some (rest, S2) ∧ acc ++ rest = rs, fun H' h => ⟨ds.length - (i + 1), by omega, rfl, h⟩, fun x H' hy => ?_⟩
    rw [List.drop_eq_getElem_cons hlt] at et
    obtain ⟨S4, e4, et⟩ := bind_inv (show (gg ds[i] ⟨wipeS S3.sl vs, S3.os⟩).bind _ = _ from et)
    obtain ⟨⟨b, S5⟩, e5, et⟩ := bind_inv et
    -- the item
    have key : ∃ F3 G3, SameT F2 F3 ∧ Ok K A2 F3 G3 ⟨wipeS S3.sl vs, S3.os⟩ (wipe σ vs) ∧ G3 L = none ∧ H' = upd G3 L (.lst us) ∧ Rp K F3 x ds[i] := by
      rcases w.yld i ds[i] _ x H' sFH (List.getElem?_eq_getElem hlt) hy with ⟨rfl, r⟩ | ⟨T, ws, es, rfl, hT, rfl, ed, r, hz2⟩
      · exact ⟨F2, G2, SameT.refl _, k2, hG, rfl, r.mono s2 _ _⟩
      · have hTL : T ≠ L := fun z => by subst z; rw [upd_same] at hT; cases hT
        have gT : G2 T = none := by rwa [upd_ne hTL] at hT
        obtain ⟨s3, k3, r3⟩ := k2.newTup gT (Rps.mono s2 _ _ r) hz2
        refine ⟨_, _, s3, k3, by rw [upd_ne (Ne.symm hTL)]; exact hG, ?_, by rw [ed]; exact r3⟩
        funext c
        by_cases h1 : c = T
        · subst h1; rw [upd_same, upd_ne hTL, upd_same]
        · rw [upd_ne h1]
          by_cases h2 : c = L
          · subst h2; rw [upd_same, upd_same]
          · rw [upd_ne h2, upd_ne h2, upd_ne h1]
    obtain ⟨F3, G3, s3, k3, hG3, rfl, rx⟩ := key
    refine ⟨G3, sub_one hG3 trivial, hg A2 F3 G3 _ _ x ds[i] S4 _ k3 rx e4 fun A4 F4 G4 σ4 p4 s4 k4 w4 => ⟨fun c xs q => ?_, fun lost => ?_⟩⟩
    · exact k4.sub.keep (k4.sub.same c _ (by
        have := k3.sub.keep q (fun z => z)
        exact s4.old c _ this trivial)) (fun z => z) |> fun z => k4.sub.same c _ z
    · have hG4 : G4 L = none := lost L _ upd_same hG3
      rw [mix_one hG3 hG4]
      refine ⟨(w4 vs hv).trans (by
        have : ∀ ws : List Nat, wipe (wipe σ ws) ws = wipe σ ws := by
          intro ws
          apply List.ext_getElem?
          intro n
          by_cases hn : n ∈ ws
          · have h1 : ∀ {τ : L2.St} {n : Nat} {ws : List Nat}, n ∈ ws → (wipe τ ws)[n]? = if n < τ.length then some none else none := by
              intro τ n ws
              induction ws with
              | nil => intro h; cases h
              | cons v ws ih =>
                intro h
                unfold wipe
                by_cases hv : v = n
                · subst hv
                  by_cases hl : v < τ.length
                  · rw [List.getElem?_set_self (by rw [wipe_length]; exact hl), if_pos hl]
                  · rw [List.getElem?_eq_none (by rw [List.length_set, wipe_length]; omega), if_neg hl]
                · rw [List.getElem?_set_ne hv]
                  exact ih ((List.mem_cons.mp h).resolve_left fun z => hv z.symm)
            rw [h1 hn, h1 hn, wipe_length]
          · rw [wipe_outV hn]
        exact this vs), G4, sub_one hG4 trivial, ht A4 F4 G4 S4 σ4 b S5 _ k4 e5 fun A5 F5 G5 p5 s5 k5 => ⟨fun c xs q => ?_, fun lost => ?_⟩⟩
      · exact k5.sub.same c _ (s5.old c _ (k4.sub.keep q (fun z => z)) trivial)
      · have hG5 : G5 L = none := lost L _ upd_same hG4
        rw [mix_one hG4 hG5]
        have w5 : wipe σ4 vs = wipe σ vs := (w4 vs hv).trans (by
          have h1 : ∀ {τ : L2.St} {n : Nat} {ws : List Nat}, n ∈ ws → (wipe τ ws)[n]? = if n < τ.length then some none else none := by
            intro τ n ws
            induction ws with
            | nil => intro h; cases h
            | cons v ws ih =>
              intro h
              unfold wipe
              by_cases hv : v = n
              · subst hv
                by_cases hl : v < τ.length
                · rw [List.getElem?_set_self (by rw [wipe_length]; exact hl), if_pos hl]
                · rw [List.getElem?_eq_none (by rw [List.length_set, wipe_length]; omega), if_neg hl]
              · rw [List.getElem?_set_ne hv]
                exact ih ((List.mem_cons.mp h).resolve_left fun z => hv z.symm)
          apply List.ext_getElem?
          intro n
          by_cases hn : n ∈ vs
          · rw [h1 hn, h1 hn, wipe_length]
          · rw [wipe_outV hn])
        cases b with
        | false =>
          rw [if_neg Bool.false_ne_true] at et
          show if false = true then _ else _
          rw [if_neg Bool.false_ne_true]
          exact ⟨hlt, A5, F5, G5, S5, acc, us, rest, s2.trans (s3.trans (s4.trans s5)), p2.trans (p4.trans p5), k5.wipe w5, hG5, rfl, Rps.mono (s3.trans (s4.trans s5)) _ _ ru, Nat.le_succ_of_le hla, et, ea⟩
        | true =>
          rw [if_pos rfl] at et
          show if true = true then _ else _
          rw [if_pos rfl]
          obtain ⟨⟨y, S6⟩, e6, et⟩ := bind_inv et
          obtain ⟨⟨rest', S7⟩, e7, et⟩ := bind_inv et
          cases et
          refine ⟨G5, sub_one hG5 trivial, he A5 F5 G5 S5 σ4 y S6 _ k5 e6 fun A6 F6 G6 v p6 s6 k6 r6 => ⟨fun c xs q => ?_, fun lost => ?_⟩⟩
          · exact k6.sub.same c _ (s6.old c _ (k5.sub.keep q (fun z => z)) trivial)
          · have hG6 : G6 L = none := lost L _ upd_same hG5
            rw [mix_one hG5 hG6]
            have ru' : Rps K F6 us acc := Rps.mono (s3.trans (s4.trans (s5.trans s6))) _ _ ru
            refine ⟨us, upd_same, ?_, hlt, A6, F6, G6, S6, acc ++ [y], us ++ [v], rest', s2.trans (s3.trans (s4.trans (s5.trans s6))), p2.trans (p4.trans (p5.trans p6)), k6.wipe w5, hG6, upd_upd, ru'.append (.cons r6 .nil), ?_, e7, ?_⟩
            · rw [ru'.length]
              omega
            · rw [List.length_append, List.length_singleton]
              omega
            · rw [← ea, List.append_assoc]; rfl
  · have ei : i = ds.length := by omega
    subst ei
    rw [List.drop_length] at et
    cases et
    refine .inl ⟨w.stop _ _ sFH (Nat.le_refl _), ?_⟩
    rw [List.append_nil] at ea
    subst ea
    exact post A2 F2 G2 L us acc (p1.trans p2) (s1.trans s2) (k1.back k2 p2 s2) hG rfl ru (Nat.le_trans hla hz)
end

/-! ### the one reading of each judgement -/
def tOf (K : PySem.W.Frag) (g : M D) : TE := fun σ H Q => ∃ A F S d S', Ok K A F H S σ ∧ g S = some (d, S') ∧ ∀ A' F' H' v, A <+: A' → SameT F F' → Ok K A' F' H' S' σ → Rp K F' v d → Q v H'
def ttOf (K : PySem.W.Frag) (g : M Bool) : TT := fun σ H Q => ∃ A F S d S', Ok K A F H S σ ∧ g S = some (d, S') ∧ ∀ A' F' H', A <+: A' → SameT F F' → Ok K A' F' H' S' σ → Q d H'
def gOf (K : PySem.W.Frag) (tgt : List Nat) (g : D → Sx → Option Sx) : TG := fun v σ H Q => ∃ A F S d S', Ok K A F H S σ ∧ Rp K F v d ∧ g d S = some S' ∧ ∀ A' F' H' σ', A <+: A' → SameT F F' → Ok K A' F' H' S' σ' → (∀ vs, (∀ i ∈ tgt, i ∈ vs) → wipe σ' vs = wipe σ vs) → Q σ' H'
def iOf (K : PySem.W.Frag) (g : M (List D)) : TI := fun σ H R => ∃ A F S ds S', Ok K A F H S σ ∧ g S = some (ds, S') ∧ ∀ A' F' H' J, A <+: A' → SameT F F' → Ok K A' F' H' S' σ → Walk K F' J ds → ds.length ≤ sizeLine → R J H'
theorem GE.pe {X : Cx} {e : Expr} {g : M D} (h : GE X e g) : PE X e (tOf X.K g) := by
  obtain ⟨t, p, r⟩ := h.ex
  exact ⟨fun pins s σ H Q I ⟨A, F, S, d, S', k, e, post⟩ => p.run pins s σ H Q I (r A F H S σ d S' Q k e post)⟩
theorem rd_of {K : PySem.W.Frag} {g : M D} : RdE K (tOf K g) g := fun A F H S σ d S' Q k e post => ⟨A, F, S, d, S', k, e, post⟩
theorem GTs.pts {X : Cx} {es : List Expr} {g : M Bool} (h : GTs X es g) : PTs X es (ttOf X.K g) := by
  obtain ⟨t, p, r⟩ := h.ex
  exact ⟨fun pins s σ H Q I ⟨A, F, S, d, S', k, e, post⟩ => p.run pins s σ H Q I (r A F H S σ d S' Q k e post)⟩
theorem rd_tof {K : PySem.W.Frag} {g : M Bool} : RdT K (ttOf K g) g := fun A F H S σ d S' Q k e post => ⟨A, F, S, d, S', k, e, post⟩
theorem GG.pg {X : Cx} {tgt : List Nat} {e : Expr} {g : D → Sx → Option Sx} (h : GG X tgt e g) : PG X e (gOf X.K tgt g) := by
  obtain ⟨t, p, r⟩ := h.ex
  exact ⟨fun pins s σ H v u Q I rv ⟨A, F, S, d, S', k, rd, e, post⟩ => p.run pins s σ H v u Q I rv (r A F H S σ v d S' Q k rd e post)⟩
theorem rd_gof {K : PySem.W.Frag} {tgt : List Nat} {g : D → Sx → Option Sx} : RdG K tgt (gOf K tgt g) g := fun A F H S σ v d S' Q k r e post => ⟨A, F, S, d, S', k, r, e, post⟩
theorem GI.pi {X : Cx} {tg e : Expr} {g : M (List D)} (h : GI X tg e g) : PI X tg e (iOf X.K g) := by
  obtain ⟨t, p, r⟩ := h.ex
  exact ⟨fun pins s σ H R I ⟨A, F, S, d, S', k, e, post⟩ => p.run pins s σ H R I (r A F H S σ d S' R k e post)⟩
theorem rd_iof {K : PySem.W.Frag} {g : M (List D)} : RdI K (iOf K g) g := fun A F H S σ d S' Q k e post => ⟨A, F, S, d, S', k, e, post⟩

/-! ### comprehensions -/
section
variable {X : Cx} {pos : Pos} {elt tg iter : Expr} {ifs : List Expr} {scope : Scope} {gi : M (List D)} {gg : D → Sx → Option Sx} {gt : M Bool} {ge : M D} {tgt : List Nat}
/-- the block of a comprehension, wherever it stands -/
abbrev InBlk (X : Cx) (scope : Scope) (P : Cx → Prop) : Prop := ∀ (s : Shared) (H : Hp) (C : Addr) (cl : List (Str × Addr)) (fp : List Addr), P (X.blk s H scope (compEnvC scope cl C X.env) fp)
structure GN (X : Cx) (e : Expr) (g : M D) : Prop where
  ex : ∃ t, PE X e t ∧ RdN X.K t g
theorem GN.e {X : Cx} {e : Expr} {g : M D} (h : GN X e g) : GE X e g := let ⟨_, p, r⟩ := h.ex; ⟨_, p, r.e⟩
theorem n_lc (own : List (Str × Nat)) (hN : X.N.Nodup) (hi : GI X tg iter gi) (ok : BlkOk X.N X.env.scope scope own) (hg : InBlk X scope fun Y => GG Y tgt tg gg) (ht : InBlk X scope fun Y => GTs Y ifs gt) (he : InBlk X scope fun Y => GE Y elt ge)
    (hv : ∀ i ∈ tgt, i ∈ own.map (·.2) := by decide) (hc : X.calm = true := by rfl) (hs : ∀ x, foldedSetIterable iter X.env x = pure x := by intro _; rfl) : GN X (.ListComp elt [⟨tg, iter, ifs, 0⟩] scope pos) (gLc gi gg gt ge (own.map (·.2))) :=
  ⟨_, pe_lc hc hN hi.pi ok (fun s H C cl fp => pg_fr (hg s H C cl fp).pg) (fun s H C cl fp => pts_fr (ht s H C cl fp).pts) (fun s H C cl fp => pe_fr (he s H C cl fp).pe) hs, rd_lc rd_iof rd_gof rd_tof rd_of hv⟩
end
end Fu

set_option maxHeartbeats 4000000
namespace Fu
open PySem PySem.Spec PyProof.Rows L2 RZ
variable [TabsC]

theorem wipe_at {τ : L2.St} {n : Nat} : ∀ {ws : List Nat}, n ∈ ws → (wipe τ ws)[n]? = if n < τ.length then some none else none
  | v :: ws, h => by
    unfold wipe
    by_cases hv : v = n
    · subst hv
      by_cases hl : v < τ.length
      · rw [List.getElem?_set_self (by rw [wipe_length]; exact hl), if_pos hl]
      · rw [List.getElem?_eq_none (by rw [List.length_set, wipe_length]; omega), if_neg hl]
    · rw [List.getElem?_set_ne hv]
      exact wipe_at ((List.mem_cons.mp h).resolve_left fun z => hv z.symm)
theorem wipe_wipe (σ : L2.St) (ws : List Nat) : wipe (wipe σ ws) ws = wipe σ ws := by
  apply List.ext_getElem?
  intro n
  by_cases hn : n ∈ ws
  · rw [wipe_at hn, wipe_at hn, wipe_length]
  · rw [wipe_outV hn]
/-- wiped twice, the second time less -/
theorem wipe_less {σ τ : L2.St} {vs ws : List Nat} (h : ∀ i ∈ ws, i ∈ vs) (e : wipe τ ws = wipe σ ws) : wipe τ vs = wipe σ vs := by
  have hl : τ.length = σ.length := by
    have := congrArg List.length e
    rwa [wipe_length, wipe_length] at this
  apply List.ext_getElem?
  intro n
  by_cases hn : n ∈ vs
  · rw [wipe_at hn, wipe_at hn, hl]
  · rw [wipe_outV hn, wipe_outV hn]
    have hw : n ∉ ws := fun z => hn (h n z)
    have := congrArg (fun l => l[n]?) e
    have h2 : (wipe τ ws)[n]? = (wipe σ ws)[n]? := this
    rwa [wipe_outV hw, wipe_outV hw] at h2
section
variable {K : PySem.W.Frag}
theorem yld_ok {A : List Addr} {F1 F2 G2 : Hp} {S : Sx} {τ : L2.St} {J : It} {ds : List D} {L : Addr} {us : List V} {i : Nat} {d : D} {x : V} {H' : Hp} (w : Walk K F1 J ds) (s2 : SameT F1 F2) (k2 : Ok K A F2 G2 S τ) (hG : G2 L = none) (hi : ds[i]? = some d)
    (hy : J.yld i (upd G2 L (.lst us)) x H') : ∃ F3 G3, SameT F2 F3 ∧ Ok K A F3 G3 S τ ∧ G3 L = none ∧ H' = upd G3 L (.lst us) ∧ Rp K F3 x d := by
  have sFH : SameT F1 (upd G2 L (.lst us)) := (s2.trans k2.sub.same.t).trans (same_upd hG)
  rcases w.yld i d _ x H' sFH hi hy with ⟨rfl, r⟩ | ⟨T, ws, es, rfl, hT, rfl, ed, r, hz2⟩
  · exact ⟨F2, G2, SameT.refl _, k2, hG, rfl, r.mono s2 _ _⟩
  · have hTL : T ≠ L := fun z => by subst z; rw [upd_same] at hT; cases hT
    have gT : G2 T = none := by rwa [upd_ne hTL] at hT
    obtain ⟨s3, k3, r3⟩ := k2.newTup gT (Rps.mono s2 _ _ r) hz2
    refine ⟨_, _, s3, k3, by rw [upd_ne (Ne.symm hTL)]; exact hG, ?_, by rw [ed]; exact r3⟩
    funext c
    by_cases h1 : c = T
    · subst h1; rw [upd_same, upd_ne hTL, upd_same]
    · rw [upd_ne h1]
      by_cases h2 : c = L
      · subst h2; rw [upd_same, upd_same]
      · rw [upd_ne h2, upd_ne h2, upd_ne h1]
theorem tup_keep {F F' G G' : Hp} (s1 : Sub F G) (s : SameT F F') (s2 : Sub F' G') : ∀ b xs, G b = some (.tup xs) → G' b = some (.tup xs) := fun b xs q =>
  s2.same b _ (s.old b _ (s1.keep q (fun z => z)) trivial)
end
/-- what is walked, over a part of the heap -/
theorem pi_fr {X : Cx} {tg e : Expr} {t : TI} (h : PI X tg e t) : PI X tg e (iFr t) := by
  refine ⟨fun pins s σ H R I ⟨G, S, q⟩ => ?_⟩
  refine thn (h.run _ s σ G _ (forget I S) q) fun v s1 h1 => thn h1 fun itv s2 h2 => ?_
  obtain ⟨it, fp, tn, J, G', e1, J1, T, st, hf, ht, hq⟩ := h2
  refine ⟨it, fp, tn, J, mixH G H G', e1, remember I S J1 ht, T, st, fun b hb => ?_, hq (lost_of I S J1)⟩
  obtain ⟨f0, f1, f2, f3, f4, f5⟩ := hf b hb
  refine ⟨?_, f1, f2, f3, f4, fun p hp => f5 p ((List.mem_append.mp hp).elim (fun z => List.mem_append_left _ z) fun z => List.mem_append_right _ (List.mem_append_left _ z))⟩
  cases q1 : G b with
  | some u => rw [mix_held q1]; exact f0
  | none =>
    cases q2 : H b with
    | none => rw [mix_free q2]; exact f0
    | some u =>
      obtain ⟨ob, hob⟩ := loose_there (I.hok b u q2) (S.loose b u q2 q1)
      exact absurd rfl (f5 (b, ob) (List.mem_append_right _ (List.mem_append_right _ (mem_lpins q2 q1 hob))))

/-! ### two clauses -/
def gTurns2 (gg : D → Sx → Option Sx) (gt : M Bool) (gi1 : M (List D)) (gg1 : D → Sx → Option Sx) (gt1 : M Bool) (ge : M D) (vs vs1 : List Nat) : List D → Sx → Option (List D × Sx)
  | [], S => some ([], S)
  | d :: ds, S => (gg d ⟨wipeS S.sl vs, S.os⟩).bind fun S1 => (gt S1).bind fun p =>
    if p.1 = true then (gi1 p.2).bind fun q => (gTurns gg1 gt1 ge vs1 q.1 q.2).bind fun r => (gTurns2 gg gt gi1 gg1 gt1 ge vs vs1 ds r.2).bind fun t => some (r.1 ++ t.1, t.2)
    else gTurns2 gg gt gi1 gg1 gt1 ge vs vs1 ds p.2
def gLc2 (gi : M (List D)) (gg : D → Sx → Option Sx) (gt : M Bool) (gi1 : M (List D)) (gg1 : D → Sx → Option Sx) (gt1 : M Bool) (ge : M D) (vs vs1 : List Nat) : M D := fun S => (gi S).bind fun p =>
  (gTurns2 gg gt gi1 gg1 gt1 ge vs vs1 p.1 p.2).bind fun r => if r.1.length ≤ sizeLine then some (.list r.1, ⟨backS p.2.sl r.2.sl vs, r.2.os⟩) else none
section
variable {K : PySem.W.Frag}
theorem rd_lc2 {wi wi1 : TI} {g g1 : TG} {tt tt1 : TT} {te : TE} {gi gi1 : M (List D)} {gg gg1 : D → Sx → Option Sx} {gt gt1 : M Bool} {ge : M D} {tgt tgt1 vs vs1 : List Nat} (hi : RdI K wi gi) (hg : RdG K tgt g gg) (ht : RdT K tt gt)
    (hi1 : RdI K wi1 gi1) (hg1 : RdG K tgt1 g1 gg1) (ht1 : RdT K tt1 gt1) (he : RdE K te ge) (hv : ∀ i ∈ tgt, i ∈ vs) (hv1 : ∀ i ∈ tgt1, i ∈ vs1) (hvv : ∀ i ∈ vs1, i ∈ vs) :
    RdN K (tLc2 wi (gFr g) (tFrT tt) (iFr wi1) (gFr g1) (tFrT tt1) (tFr te) vs vs1) (gLc2 gi gg gt gi1 gg1 gt1 ge vs vs1) := by
  intro A F H S σ d S' Q k e post
  obtain ⟨⟨ds, S1⟩, e1, e⟩ := bind_inv e
  obtain ⟨⟨rs, S2⟩, e2, e⟩ := bind_inv e
  simp only at e
  split at e
  case isFalse => cases e
  rename_i hrs
  cases e
  refine hi A F H S σ ds S1 _ k e1 fun A1 F1 H1 J p1 s1 k1 w hz => fun L hL => ?_
  refine ⟨fun i m H => m = ds.length - i ∧ i ≤ ds.length ∧ ∃ A F G S acc us rest, SameT F1 F ∧ A1 <+: A ∧ Ok K A F G ⟨wipeS S.sl vs, S.os⟩ (wipe σ vs) ∧ G L = none ∧ H = upd G L (.lst us) ∧ Rps K F us acc ∧
    gTurns2 gg gt gi1 gg1 gt1 ge vs vs1 (ds.drop i) S = some (rest, S2) ∧ acc ++ rest = rs, ⟨ds.length, by simp, Nat.zero_le _, A1, F1, H1, S1, [], [], rs, SameT.refl _, List.prefix_refl _, k1.wipe rfl, hL, rfl, .nil, by simpa using e2, rfl⟩, ?_⟩
  rintro i m H ⟨rfl, hil, A2, F2, G2, S3, acc, us, rest, s2, p2, k2, hG, rfl, ru, et, ea⟩
  have sFH : SameT F1 (upd G2 L (.lst us)) := (s2.trans k2.sub.same.t).trans (same_upd hG)
  by_cases hlt : i < ds.length
  · refine .inr ⟨w.go i _ sFH hlt, fun H' => i + 1 ≤ ds.length ∧ ∃ A F G S acc us rest, SameT F1 F ∧ A1 <+: A ∧ Ok K A F G ⟨wipeS S.sl vs, S.os⟩ (wipe σ vs) ∧ G L = none ∧ H' = upd G L (.lst us) ∧ Rps K F us acc ∧
      gTurns2 gg gt gi1 gg1 gt1 ge vs vs1 (ds.drop (i + 1)) S = some (rest, S2) ∧ acc ++ rest = rs, fun H' h => ⟨ds.length - (i + 1), by omega, rfl, h⟩, fun x H' hy => ?_⟩
    rw [List.drop_eq_getElem_cons hlt] at et
    obtain ⟨S4, e4, et⟩ := bind_inv (show (gg ds[i] ⟨wipeS S3.sl vs, S3.os⟩).bind _ = _ from et)
    obtain ⟨⟨b, S5⟩, e5, et⟩ := bind_inv et
    obtain ⟨F3, G3, s3, k3, hG3, rfl, rx⟩ := yld_ok w s2 k2 hG (List.getElem?_eq_getElem hlt) hy
    refine ⟨G3, sub_one hG3 trivial, hg A2 F3 G3 _ _ x ds[i] S4 _ k3 rx e4 fun A4 F4 G4 σ4 p4 s4 k4 w4 => ⟨tup_keep k3.sub s4 k4.sub, fun lost => ?_⟩⟩
    have hG4 : G4 L = none := lost L _ upd_same hG3
    rw [mix_one hG3 hG4]
    have w5 : wipe σ4 vs = wipe σ vs := (w4 vs hv).trans (wipe_wipe σ vs)
    refine ⟨by rw [w5], G4, sub_one hG4 trivial, ht A4 F4 G4 S4 σ4 b S5 _ k4 e5 fun A5 F5 G5 p5 s5 k5 => ⟨tup_keep k4.sub s5 k5.sub, fun lost => ?_⟩⟩
    have hG5 : G5 L = none := lost L _ upd_same hG4
    rw [mix_one hG4 hG5]
    have s35 : SameT F2 F5 := s3.trans (s4.trans s5)
    cases b with
    | false =>
      rw [if_neg Bool.false_ne_true] at et
      show if false = true then _ else _
      rw [if_neg Bool.false_ne_true]
      exact ⟨hlt, A5, F5, G5, S5, acc, us, rest, s2.trans s35, p2.trans (p4.trans p5), k5.wipe w5, hG5, rfl, Rps.mono s35 _ _ ru, et, ea⟩
    | true =>
      rw [if_pos rfl] at et
      show if true = true then _ else _
      rw [if_pos rfl]
      obtain ⟨⟨ds1, S6⟩, e6, et⟩ := bind_inv et
      obtain ⟨⟨rs1, S7⟩, e7, et⟩ := bind_inv et
      obtain ⟨⟨rest', S8⟩, e8, et⟩ := bind_inv et
      cases et
      refine ⟨G5, sub_one hG5 trivial, hi1 A5 F5 G5 S5 σ4 ds1 S6 _ k5 e6 fun A6 F6 G6 J1 p6 s6 k6 w6 hz6 => ⟨tup_keep k5.sub s6 k6.sub, fun lost => ?_⟩⟩
      have hG6 : G6 L = none := lost L _ upd_same hG5
      rw [mix_one hG5 hG6]
      have s36 : SameT F2 F6 := s35.trans s6
      refine ⟨fun j m H => m = ds1.length - j ∧ j ≤ ds1.length ∧ ∃ A F G S acc us rest, SameT F6 F ∧ A6 <+: A ∧ Ok K A F G ⟨wipeS S.sl vs1, S.os⟩ (wipe σ4 vs1) ∧ G L = none ∧ H = upd G L (.lst us) ∧ Rps K F us acc ∧
        gTurns gg1 gt1 ge vs1 (ds1.drop j) S = some (rest, S7) ∧ acc ++ (rest ++ rest') = rs, ⟨ds1.length, by simp, Nat.zero_le _, A6, F6, G6, S6, acc, us, rs1, SameT.refl _, List.prefix_refl _, k6.wipe rfl, hG6, rfl, Rps.mono s36 _ _ ru, by simpa using e7, ea⟩, ?_⟩
      rintro j m H ⟨rfl, hjl, A7, F7, G7, S9, acc7, us7, rest7, s7, p7, k7, hG7, rfl, ru7, et7, ea7⟩
      have sFH7 : SameT F6 (upd G7 L (.lst us7)) := (s7.trans k7.sub.same.t).trans (same_upd hG7)
      by_cases hlt7 : j < ds1.length
      · refine .inr ⟨w6.go j _ sFH7 hlt7, fun H' => j + 1 ≤ ds1.length ∧ ∃ A F G S acc us rest, SameT F6 F ∧ A6 <+: A ∧ Ok K A F G ⟨wipeS S.sl vs1, S.os⟩ (wipe σ4 vs1) ∧ G L = none ∧ H' = upd G L (.lst us) ∧ Rps K F us acc ∧
          gTurns gg1 gt1 ge vs1 (ds1.drop (j + 1)) S = some (rest, S7) ∧ acc ++ (rest ++ rest') = rs, fun H' h => ⟨ds1.length - (j + 1), by omega, rfl, h⟩, fun y H' hy7 => ?_⟩
        rw [List.drop_eq_getElem_cons hlt7] at et7
        obtain ⟨S10, e10, et7⟩ := bind_inv (show (gg1 ds1[j] ⟨wipeS S9.sl vs1, S9.os⟩).bind _ = _ from et7)
        obtain ⟨⟨b7, S11⟩, e11, et7⟩ := bind_inv et7
        obtain ⟨F8, G8, s8, k8, hG8, rfl, rx8⟩ := yld_ok w6 s7 k7 hG7 (List.getElem?_eq_getElem hlt7) hy7
        refine ⟨G8, sub_one hG8 trivial, hg1 A7 F8 G8 _ _ y ds1[j] S10 _ k8 rx8 e10 fun A9 F9 G9 σ9 p9 s9 k9 w9 => ⟨tup_keep k8.sub s9 k9.sub, fun lost => ?_⟩⟩
        have hG9 : G9 L = none := lost L _ upd_same hG8
        rw [mix_one hG8 hG9]
        have w10 : wipe σ9 vs1 = wipe σ4 vs1 := (w9 vs1 hv1).trans (wipe_wipe σ4 vs1)
        refine ⟨w10, G9, sub_one hG9 trivial, ht1 A9 F9 G9 S10 σ9 b7 S11 _ k9 e11 fun A10 F10 G10 p10 s10 k10 => ⟨tup_keep k9.sub s10 k10.sub, fun lost => ?_⟩⟩
        have hG10 : G10 L = none := lost L _ upd_same hG9
        rw [mix_one hG9 hG10]
        have s710 : SameT F7 F10 := s8.trans (s9.trans s10)
        cases b7 with
        | false =>
          rw [if_neg Bool.false_ne_true] at et7
          show if false = true then _ else _
          rw [if_neg Bool.false_ne_true]
          exact ⟨hlt7, A10, F10, G10, S11, acc7, us7, rest7, s7.trans s710, p7.trans (p9.trans p10), k10.wipe w10, hG10, rfl, Rps.mono s710 _ _ ru7, et7, ea7⟩
        | true =>
          rw [if_pos rfl] at et7
          show if true = true then _ else _
          rw [if_pos rfl]
          obtain ⟨⟨z, S12⟩, e12, et7⟩ := bind_inv et7
          obtain ⟨⟨rest8, S13⟩, e13, et7⟩ := bind_inv et7
          cases et7
          refine ⟨G10, sub_one hG10 trivial, he A10 F10 G10 S11 σ9 z S12 _ k10 e12 fun A11 F11 G11 v p11 s11 k11 r11 => ⟨tup_keep k10.sub s11 k11.sub, fun lost => ?_⟩⟩
          have hG11 : G11 L = none := lost L _ upd_same hG10
          rw [mix_one hG10 hG11]
          have ru' : Rps K F11 us7 acc7 := Rps.mono (s710.trans s11) _ _ ru7
          refine ⟨us7, upd_same, ?_, hlt7, A11, F11, G11, S12, acc7 ++ [z], us7 ++ [v], rest8, s7.trans (s710.trans s11), p7.trans (p9.trans (p10.trans p11)), k11.wipe w10, hG11, upd_upd, ru'.append (.cons r11 .nil), e13, ?_⟩
          · rw [ru'.length]
            have := congrArg List.length ea7
            simp only [List.length_append, List.length_cons] at this
            omega
          · rw [← ea7, List.append_assoc]; rfl
      · have ej : j = ds1.length := by omega
        subst ej
        rw [List.drop_length] at et7
        cases et7
        refine .inl ⟨w6.stop _ _ sFH7 (Nat.le_refl _), hlt, A7, F7, G7, S7, acc7, us7, rest', s2.trans (s36.trans s7), p2.trans (p4.trans (p5.trans (p6.trans p7))), ?_, hG7, rfl, ru7, e8, by simpa using ea7⟩
        -- wiped less becomes wiped more
        have k8 := k7.wipe (σ := σ) (vs := vs) ((wipe_less hvv (wipe_wipe σ4 vs1)).trans w5)
        have e9 : wipeS (wipeS S7.sl vs1) vs = wipeS S7.sl vs := by
          apply List.ext_getElem?
          intro n
          have at_ : ∀ {sl : List (Option R)} {n : Nat} {ws : List Nat}, n ∈ ws → (wipeS sl ws)[n]? = if n < sl.length then some none else none := by
            intro sl n ws
            induction ws with
            | nil => intro h; cases h
            | cons v ws ih =>
              intro h
              unfold wipeS
              by_cases hv : v = n
              · subst hv
                by_cases hl : v < sl.length
                · rw [List.getElem?_set_self (by rw [wipeS_len]; exact hl), if_pos hl]
                · rw [List.getElem?_eq_none (by rw [List.length_set, wipeS_len]; omega), if_neg hl]
              · rw [List.getElem?_set_ne hv]
                exact ih ((List.mem_cons.mp h).resolve_left fun z => hv z.symm)
          by_cases hn : n ∈ vs
          · rw [at_ hn, at_ hn, wipeS_len]
          · rw [wipeS_out hn, wipeS_out hn, wipeS_out fun z => hn (hvv n z)]
        simp only [e9] at k8
        exact k8
  · have ei : i = ds.length := by omega
    subst ei
    rw [List.drop_length] at et
    cases et
    refine .inl ⟨w.stop _ _ sFH (Nat.le_refl _), ?_⟩
    rw [List.append_nil] at ea
    subst ea
    exact post A2 F2 G2 L us acc (p1.trans p2) (s1.trans s2) (k1.back k2 p2 s2) hG rfl ru hrs
end
section
variable {X : Cx} {pos : Pos} {elt tg iter tg1 iter1 : Expr} {ifs ifs1 : List Expr} {scope : Scope} {gi gi1 : M (List D)} {gg gg1 : D → Sx → Option Sx} {gt gt1 : M Bool} {ge : M D} {tgt tgt1 : List Nat}
theorem n_lc2 (own : List (Str × Nat)) (vs1 : List Nat) (hN : X.N.Nodup) (hi : GI X tg iter gi) (ok : BlkOk X.N X.env.scope scope own) (hg : InBlk X scope fun Y => GG Y tgt tg gg) (ht : InBlk X scope fun Y => GTs Y ifs gt)
    (hi1 : InBlk X scope fun Y => GI Y tg1 iter1 gi1) (hg1 : InBlk X scope fun Y => GG Y tgt1 tg1 gg1) (ht1 : InBlk X scope fun Y => GTs Y ifs1 gt1) (he : InBlk X scope fun Y => GE Y elt ge)
    (hv : ∀ i ∈ tgt, i ∈ own.map (·.2) := by decide) (hv1 : ∀ i ∈ tgt1, i ∈ vs1 := by decide) (hvv : ∀ i ∈ vs1, i ∈ own.map (·.2) := by decide) (hc : X.calm = true := by rfl) (hs : ∀ x, foldedSetIterable iter X.env x = pure x := by intro _; rfl) (hs1 : ∀ env x, foldedSetIterable iter1 env x = pure x := by intro _ _; rfl) :
    GN X (.ListComp elt [⟨tg, iter, ifs, 0⟩, ⟨tg1, iter1, ifs1, 0⟩] scope pos) (gLc2 gi gg gt gi1 gg1 gt1 ge (own.map (·.2)) vs1) :=
  ⟨_, pe_lc2 hc hN hi.pi ok hvv (fun s H C cl fp => pg_fr (hg s H C cl fp).pg) (fun s H C cl fp => pts_fr (ht s H C cl fp).pts) (fun s H C cl fp => pi_fr (hi1 s H C cl fp).pi) (fun s H C cl fp => pg_fr (hg1 s H C cl fp).pg)
    (fun s H C cl fp => pts_fr (ht1 s H C cl fp).pts) (fun s H C cl fp => pe_fr (he s H C cl fp).pe) hs hs1, rd_lc2 rd_iof rd_gof rd_tof rd_iof rd_gof rd_tof rd_of hv hv1 hvv⟩
end
end Fu

set_option maxHeartbeats 4000000
namespace Fu
open PySem PySem.Spec PyProof.Rows L2 RZ
variable [TabsC]

/-! ### statements -/
inductive Out where
  | nx (S : Sx)
  | rt (d : D) (S : Sx)
  | bk (S : Sx)
  | ct (S : Sx)
  | ro (j : Nat) (S : Sx)
/-- what a statement's end hands on; B: what stands for good, A0: the cells that were there -/
def OutP (K : PySem.W.Frag) (B : Hp) (A0 : List Addr) (o : Out) (E : Ends) : Prop := match o with
  | .nx S' => ∀ A F H σ, SameT B F → A0 <+: A → Ok K A F H S' σ → E.nx σ H
  | .rt d S' => ∀ A F H σ v, SameT B F → A0 <+: A → Ok K A F H S' σ → Rp K F v d → E.rt v H
  | .bk S' => ∀ A F H σ, SameT B F → A0 <+: A → Ok K A F H S' σ → E.bk σ H
  | .ct S' => ∀ A F H σ, SameT B F → A0 <+: A → Ok K A F H S' σ → E.ct σ H
  | .ro j S' => ∀ A F H σ a, SameT B F → A0 <+: A → Ok K A F H S' σ → A[j]? = some a → E.rt (.ref a) H
def RdS (K : PySem.W.Frag) (P : Hp → Prop) (t : TS) (g : Sx → Option Out) : Prop := ∀ B A0 A F H S σ o (E : Ends), P B → SameT B F → A0 <+: A → Ok K A F H S σ → g S = some o → OutP K B A0 o E → t E σ H
structure GS (X : Cx) (P : Hp → Prop) (st : Stmt) (g : Sx → Option Out) : Prop where
  ex : ∃ t, PS X st t ∧ RdS X.K P t g
structure GSs (X : Cx) (P : Hp → Prop) (st : List Stmt) (g : Sx → Option Out) : Prop where
  ex : ∃ t, PSs X st t ∧ RdS X.K P t g
def qNx : Sx → Option Out := fun S => some (.nx S)
def qSeq (g h : Sx → Option Out) : Sx → Option Out := fun S => (g S).bind fun o => match o with
  | .nx S1 => h S1
  | o => some o
def qDrop (g : M D) : Sx → Option Out := fun S => (g S).bind fun p => some (.nx p.2)
def qRet (g : M D) : Sx → Option Out := fun S => (g S).bind fun p => some (.rt p.1 p.2)
def qRetN : Sx → Option Out := fun S => some (.rt .none S)
def qIf (t : M Bool) (g h : Sx → Option Out) : Sx → Option Out := fun S => (t S).bind fun p => if p.1 = true then g p.2 else h p.2
def qSet (i : Nat) (g : M D) : Sx → Option Out := fun S => (g S).bind fun p => some (.nx ⟨p.2.sl.set i (some (.dat p.1)), p.2.os⟩)
def qAsg (gg : D → Sx → Option Sx) (g : M D) : Sx → Option Out := fun S => (g S).bind fun p => (gg p.1 p.2).bind fun S1 => some (.nx S1)
/-- a new list of one's own -/
def qOwn (i : Nat) (g : M D) : Sx → Option Out := fun S => (g S).bind fun p => match p.1 with
  | .list ds => some (.nx ⟨p.2.sl.set i (some (.own p.2.os.length)), p.2.os ++ [some (.lst ds)]⟩)
  | _ => none
def qNone : Sx → Option Out := fun _ => none
section
variable {X : Cx} {P : Hp → Prop} {st : Stmt} {sts : List Stmt} {g h : Sx → Option Out} {e : Expr} {ge : M D} {pos : Pos}
theorem ss_nil : GSs X P [] qNx := ⟨_, pss_nil, fun B A0 A F H S σ o E hP s p k e post => by cases e; exact post A F H σ s p k⟩
theorem rd_seq {K : PySem.W.Frag} {t u : TS} (hg : RdS K P t g) (hh : RdS K P u h) : RdS K P (tSeq t u) (qSeq g h) := by
  intro B A0 A F H S σ o E hP s p k e post
  obtain ⟨o1, e1, e⟩ := bind_inv e
  refine hg B A0 A F H S σ o1 _ hP s p k e1 ?_
  cases o1 with
  | nx S1 => exact fun A1 F1 H1 σ1 s1 p1 k1 => hh B A0 A1 F1 H1 S1 σ1 o E hP s1 p1 k1 e post
  | rt d S1 => cases e; exact post
  | bk S1 => cases e; exact post
  | ct S1 => cases e; exact post
  | ro j S1 => cases e; exact post
theorem ss_cons (h1 : GS X P st g) (h2 : GSs X P sts h) : GSs X P (st :: sts) (qSeq g h) :=
  let ⟨_, p1, r1⟩ := h1.ex; let ⟨_, p2, r2⟩ := h2.ex; ⟨_, pss_cons p1 p2, rd_seq r1 r2⟩
theorem ss_one (h1 : GS X P st g) : GSs X P [st] g := let ⟨_, p1, r1⟩ := h1.ex; ⟨_, pss_one p1, r1⟩
theorem s_never : GS X P st qNone := ⟨_, ps_never, fun B A0 A F H S σ o E hP s p k e post => by cases e⟩
theorem s_expr (he : GE X e ge) (hs : swapsWith e none pos.line X.env = pure false := by rfl) : GS X P (.Expr e pos) (qDrop ge) := by
  obtain ⟨t, p1, r1⟩ := he.ex
  refine ⟨_, ps_expr p1 hs, fun B A0 A F H S σ o E hP s p k e post => ?_⟩
  obtain ⟨⟨d, S1⟩, e1, e⟩ := bind_inv e
  cases e
  exact r1 A F H S σ d S1 _ k e1 fun A1 F1 H1 v p1 s1 k1 _ => post A1 F1 H1 σ (s.trans s1) (p.trans p1) k1
theorem s_ret (he : GE X e ge) : GS X P (.Return (some e) pos) (qRet ge) := by
  obtain ⟨t, p1, r1⟩ := he.ex
  refine ⟨_, ps_ret p1, fun B A0 A F H S σ o E hP s p k e post => ?_⟩
  obtain ⟨⟨d, S1⟩, e1, e⟩ := bind_inv e
  cases e
  exact r1 A F H S σ d S1 _ k e1 fun A1 F1 H1 v p1 s1 k1 rv => post A1 F1 H1 σ v (s.trans s1) (p.trans p1) k1 rv
theorem s_if {c : Expr} {a b : List Stmt} {gt : M Bool} (hc : GT X c gt) (ha : GSs X P a g) (hb : GSs X P b h) : GS X P (.If c a b pos) (qIf gt g h) := by
  obtain ⟨t, pc, rc⟩ := hc.ex
  obtain ⟨_, pa, ra⟩ := ha.ex
  obtain ⟨_, pb, rb⟩ := hb.ex
  refine ⟨_, ps_if pc pa pb, fun B A0 A F H S σ o E hP s p k e post => ?_⟩
  obtain ⟨⟨x, S1⟩, e1, e⟩ := bind_inv e
  refine rc A F H S σ x S1 _ k e1 fun A1 F1 H1 p1 s1 k1 => ?_
  cases x with
  | true => exact ra B A0 A1 F1 H1 S1 σ o E hP (s.trans s1) (p.trans p1) k1 e post
  | false => exact rb B A0 A1 F1 H1 S1 σ o E hP (s.trans s1) (p.trans p1) k1 e post
theorem rd_asgN {K : PySem.W.Frag} {t : TE} (i : Nat) (r : RdE K t ge) : RdS K P (tAsg t (gName i)) (qSet i ge) := by
  intro B A0 A F H S σ o E hP s p k e post
  obtain ⟨⟨d, S1⟩, e1, e⟩ := bind_inv e
  cases e
  exact r A F H S σ d S1 _ k e1 fun A1 F1 H1 v p1 s1 k1 rv => post A1 F1 H1 _ (s.trans s1) (p.trans p1) (k1.setDat rv)
theorem s_set {x : Str} {pos' : Pos} (i : Nat) (hN : X.N.Nodup) (he : GE X e ge) (hx : Loc X.env.scope x := by first | exact Or.inl rfl | exact Or.inr rfl) (hi : X.N[i]? = some x := by rfl) (hs : swapsWith e (some (.Name x pos')) pos.line X.env = pure false := by rfl)
    (hf : X.fn x = true ∨ X.env.scope.names.lookup x = some .local := by first | exact .inl rfl | exact .inr rfl | assumption) : GS X P (.Assign [.Name x pos'] e pos) (qSet i ge) :=
  let ⟨_, p1, r1⟩ := he.ex; ⟨_, ps_set hN hi hx p1 hs hf, rd_asgN i r1⟩
theorem s_asg {tg : Expr} {tgt : List Nat} {gg : D → Sx → Option Sx} (hg : GG X tgt tg gg) (he : GE X e ge) (hs : swapsWithSole [tg] e pos.line X.env = pure false := by rfl) (hw : swappedStores [tg] e X.env = pure none := by rfl)
    (h1 : (assignEach [tg] X.env).map (·.2) = [assign tg X.env] := by rfl) : GS X P (.Assign [tg] e pos) (qAsg gg ge) := by
  obtain ⟨t, pa, ra⟩ := he.ex
  obtain ⟨u, pb, rb⟩ := hg.ex
  refine ⟨_, ps_asg pa pb hs hw h1, fun B A0 A F H S σ o E hP s p k e post => ?_⟩
  obtain ⟨⟨d, S1⟩, e1, e⟩ := bind_inv e
  obtain ⟨S2, e2, e⟩ := bind_inv e
  cases e
  exact ra A F H S σ d S1 _ k e1 fun A1 F1 H1 v p1 s1 k1 rv => rb A1 F1 H1 S1 σ v d S2 _ k1 rv e2 fun A2 F2 H2 σ2 p2 s2 k2 _ => post A2 F2 H2 σ2 (s.trans (s1.trans s2)) (p.trans (p1.trans p2)) k2
/-- a, b = x, y -/
def qPar (i j : Nat) (g : M (List D)) : Sx → Option Out := fun S => (g S).bind fun p => match p.1 with
  | [d, e] => some (.nx ⟨(p.2.sl.set i (some (.dat d))).set j (some (.dat e)), p.2.os⟩)
  | _ => none
theorem s_par {x y : Str} {a b : Expr} {gs : M (List D)} {px py pt : Pos} {kt k2 pt2} (i j : Nat) (hN : X.N.Nodup) (ha : GA X [a, b] gs) (hi : X.N[i]? = some x := by rfl) (hj : X.N[j]? = some y := by rfl) (hij : i ≠ j := by decide)
    (hx : X.env.scope.names.lookup x = some .local := by rfl) (hy : X.env.scope.names.lookup y = some .local := by rfl) (hc : X.calm = true := by rfl)
    (hw : swappedStores [.Tuple [.Name x px, .Name y py] kt pt] (.Tuple [a, b] k2 pt2) X.env = pure (some [x, y]) := by rfl)
    (hs : swapsWithSole [.Tuple [.Name x px, .Name y py] kt pt] (.Tuple [a, b] k2 pt2) pos.line X.env = pure false := by rfl) :
    GS X P (.Assign [.Tuple [.Name x px, .Name y py] kt pt] (.Tuple [a, b] k2 pt2) pos) (qPar i j gs) := by
  obtain ⟨t, pa, ra⟩ := ha.ex
  refine ⟨_, ps_par hc hN hi hj hij hx hy pa hw hs, fun B A0 A F H S σ o E hP s p k e post => ?_⟩
  obtain ⟨⟨ds, S1⟩, e1, e⟩ := bind_inv e
  simp only at e
  split at e
  · cases e
    refine ra A F H S σ _ S1 _ k e1 fun A1 F1 H1 vs p1 s1 k1 rv => ?_
    obtain ⟨v, u, rfl, r1, r2⟩ := rps2 rv
    exact ⟨v, u, rfl, post A1 F1 H1 _ (s.trans s1) (p.trans p1) ((k1.setDat r1).setDat r2)⟩
  · cases e
/-- a list that stands in the heap and is nobody's becomes a cell -/
theorem Ok.adopt {K : PySem.W.Frag} {A : List Addr} {F G : Hp} {S : Sx} {σ : L2.St} (k : Ok K A F G S σ) {p : Addr} {vs : List V} {ds : List D} (hp : G p = none) (r : Rps K F vs ds) (hz : ds.length ≤ sizeLine) :
    Ok K (A ++ [p]) F (upd G p (.lst vs)) ⟨S.sl, S.os ++ [some (.lst ds)]⟩ σ := k.cellNew hp trivial ⟨vs, upd_same, r, hz⟩
theorem rd_asgO {K : PySem.W.Frag} {t : TE} (i : Nat) (r : RdN K t ge) : RdS K P (tAsg t (gName i)) (qOwn i ge) := by
  intro B A0 A F H S σ o E hP s p k e post
  obtain ⟨⟨d, S1⟩, e1, e⟩ := bind_inv e
  refine r A F H S σ d S1 _ k e1 fun A1 F1 G1 L vs ds p1 s1 k1 hL ed rv hz => ?_
  subst ed
  cases e
  have k2 := k1.adopt hL rv hz
  exact post _ F1 _ _ (s.trans s1) (p.trans (p1.trans (List.prefix_append _ _))) (k2.setOwn (j := S1.os.length) (by rw [k1.alen]; simp))
/-- a new list goes out, nobody's yet -/
def qRetO (g : M D) : Sx → Option Out := fun S => (g S).bind fun p => match p.1 with
  | .list ds => some (.ro p.2.os.length ⟨p.2.sl, p.2.os ++ [some (.lst ds)]⟩)
  | _ => none
theorem s_retNew (he : GN X e ge) : GS X P (.Return (some e) pos) (qRetO ge) := by
  obtain ⟨t, p1, r1⟩ := he.ex
  refine ⟨_, ps_ret p1, fun B A0 A F H S σ o E hP s p k e post => ?_⟩
  obtain ⟨⟨d, S1⟩, e1, e⟩ := bind_inv e
  refine r1 A F H S σ d S1 _ k e1 fun A1 F1 G1 L vs ds p1 s1 k1 hL ed rv hz => ?_
  subst ed
  cases e
  exact post _ F1 _ σ L (s.trans s1) (p.trans (p1.trans (List.prefix_append _ _))) (k1.adopt hL rv hz) (by rw [k1.alen]; simp)
theorem s_own {x : Str} {pos' : Pos} (i : Nat) (hN : X.N.Nodup) (he : GN X e ge) (hx : Loc X.env.scope x := by first | exact Or.inl rfl | exact Or.inr rfl) (hi : X.N[i]? = some x := by rfl) (hs : swapsWith e (some (.Name x pos')) pos.line X.env = pure false := by rfl)
    (hf : X.fn x = true ∨ X.env.scope.names.lookup x = some .local := by first | exact .inl rfl | exact .inr rfl | assumption) : GS X P (.Assign [.Name x pos'] e pos) (qOwn i ge) :=
  let ⟨_, p1, r1⟩ := he.ex; ⟨_, ps_set hN hi hx p1 hs hf, rd_asgO i r1⟩
end
section
variable {X : Cx} {P : Hp → Prop} {pos spos py : Pos} {y : Str} {elt tg iter tg1 iter1 : Expr} {ifs ifs1 : List Expr} {scope : Scope} {gi gi1 : M (List D)} {gg gg1 : D → Sx → Option Sx} {gt gt1 : M Bool} {ge : M D} {tgt tgt1 : List Nat}
/-- name = [..], on one line -/
structure Lc1 (X : Cx) (i : Nat) (st : Stmt) (g : M D) : Prop where
  ex : ∃ t, PS X st (tAsg t (gName i)) ∧ RdN X.K t g
theorem lc1 (i : Nat) (own : List (Str × Nat)) (hN : X.N.Nodup) (hi : GI X tg iter gi) (ok : BlkOk X.N X.env.scope scope own) (hg : InBlk X scope fun Y => GG Y tgt tg gg) (ht : InBlk X scope fun Y => GTs Y ifs gt) (he : InBlk X scope fun Y => GE Y elt ge)
    (hy : X.N[i]? = some y := by rfl) (hyl : X.env.scope.names.lookup y = some .local := by rfl) (hv : ∀ i ∈ tgt, i ∈ own.map (·.2) := by decide) (hc : X.calm = true := by rfl) (hs : ∀ x, foldedSetIterable iter X.env x = pure x := by intro _; rfl)
    (hsw : swapsWith (.ListComp elt [⟨tg, iter, ifs, 0⟩] scope pos) (some (.Name y py)) spos.line X.env = pure true := by exact sw_true rfl rfl rfl (by decide +kernel)) :
    Lc1 X i (.Assign [.Name y py] (.ListComp elt [⟨tg, iter, ifs, 0⟩] scope pos) spos) (gLc gi gg gt ge (own.map (·.2))) :=
  ⟨_, ps_setLc hc hN hy hyl hsw hi.pi ok (fun s H C cl fp => pg_fr (hg s H C cl fp).pg) (fun s H C cl fp => pts_fr (ht s H C cl fp).pts) (fun s H C cl fp => pe_fr (he s H C cl fp).pe) hs, rd_lc rd_iof rd_gof rd_tof rd_of hv⟩
theorem s_setLc {i : Nat} {st : Stmt} (h : Lc1 X i st ge) : GS X P st (qSet i ge) := let ⟨_, p, r⟩ := h.ex; ⟨_, p, rd_asgN i r.e⟩
end

/-! ### new lists -/
section
variable {X : Cx} {pos p : Pos} {a b e : Expr} {es : List Expr} {ga gb : M D} {gs : M (List D)}
theorem n_lst (hs : GA X es gs) : GN X (.List es pos) (gLst gs) := by
  obtain ⟨u, pb, rb⟩ := hs.ex
  refine ⟨_, pe_lst pb, fun A F H S σ d S' Q k e post => ?_⟩
  obtain ⟨⟨x, S1⟩, h1, e⟩ := bind_inv e
  simp only at e
  split at e
  · rename_i hz
    cases e
    exact rb A F H S σ x _ _ k h1 fun A1 F1 H1 vs p1 s1 k1 r1 => ⟨by rw [r1.length]; exact hz, fun p hp => post A1 F1 H1 p vs x p1 s1 k1 hp rfl r1 hz⟩
  · cases e
/-- [x] * n -/
def gRep (f : D → D → Option D) (ga gb : M D) : M D := fun S => (gBin f ga gb S).bind fun p => match p.1 with
  | .list ds => some (.list ds, p.2)
  | _ => none
end
end Fu

set_option maxHeartbeats 4000000
namespace Fu
open PySem PySem.Spec PyProof.Rows L2 RZ
variable [TabsC]

/-! ### lists that are written: items, length, comparisons -/
def ownOf (S : Sx) (i : Nat) : Option (Nat × List D) := match S.sl[i]? with
  | some (some (.own j)) => match S.os[j]? with
    | some (some (.lst cs)) => some (j, cs)
    | _ => none
  | _ => none
theorem own_at {K : PySem.W.Frag} {A : List Addr} {F H : Hp} {S : Sx} {σ : L2.St} {i j : Nat} {cs : List D} (k : Ok K A F H S σ) (h : ownOf S i = some (j, cs)) :
    ∃ a vs, S.sl[i]? = some (some (.own j)) ∧ S.os[j]? = some (some (.lst cs)) ∧ A[j]? = some a ∧ σ[i]? = some (some (.ref a)) ∧ F a = none ∧ H a = some (.lst vs) ∧ Rps K F vs cs ∧ cs.length ≤ sizeLine := by
  unfold ownOf at h
  split at h
  · rename_i j' ej
    split at h
    · rename_i cs' ec
      cases h
      obtain ⟨a, ha, ev⟩ := k.oslot i _ ej
      obtain ⟨a', ha', fa, vs, hv, r, hz⟩ := k.cell _ _ ec
      rw [ha] at ha'; cases ha'
      exact ⟨a, vs, ej, ec, ha, ev, fa, hv, r, hz⟩
    · cases h
  · cases h
/-- behind an expression: the cell as it stands by then -/
def cellOf (S : Sx) (j : Nat) : Option (List D) := match S.os[j]? with
  | some (some (.lst cs)) => some cs
  | _ => none
theorem cell_at {K : PySem.W.Frag} {A : List Addr} {F H : Hp} {S : Sx} {σ : L2.St} {j : Nat} {cs : List D} {a : Addr} (k : Ok K A F H S σ) (h : cellOf S j = some cs) (ha : A[j]? = some a) :
    ∃ vs, S.os[j]? = some (some (.lst cs)) ∧ F a = none ∧ H a = some (.lst vs) ∧ Rps K F vs cs ∧ cs.length ≤ sizeLine := by
  unfold cellOf at h
  split at h
  · rename_i cs' ec
    cases h
    obtain ⟨a', ha', fa, vs, hv, r, hz⟩ := k.cell _ _ ec
    rw [ha] at ha'; cases ha'
    exact ⟨vs, ec, fa, hv, r, hz⟩
  · cases h
section
variable {X : Cx} {P : Hp → Prop} {pos py p p2 apos : Pos} {y : Str} {b e : Expr} {es : List Expr} {gb ge : M D} {gs : M (List D)}
def gIxO (i : Nat) (gb : M D) : M D := fun S => (ownOf S i).bind fun o => (gb S).bind fun p => match p.1 with
  | .int n => (cellOf p.2 o.1).bind fun cs => (atI cs n).bind fun d => some (d, p.2)
  | _ => none
theorem e_ixO (i : Nat) (hb : GE X b gb) (hN : X.N[i]? = some y := by rfl) (hv : Vis X.env.scope y := by first | exact Or.inl rfl | exact Or.inr (Or.inl rfl) | exact Or.inr (Or.inr rfl)) (hs : PlainIx b := by exact fun _ _ => rfl) (hdy : (y == ("__debug__" : Str)) = false := by decide) (hcd : (y == ("__classdict__" : Str)) = false := by decide) :
    GE X (.Subscript (.Name y py) b pos) (gIxO i gb) := by
  obtain ⟨u, pb, rb⟩ := hb.ex
  refine ⟨_, pe_ix ix_list (pe_var hN hv hdy hcd) pb hs, fun A F H S σ d S' Q k h post => ?_⟩
  obtain ⟨⟨j, cs0⟩, e0, h⟩ := bind_inv h
  obtain ⟨⟨x, S1⟩, e1, h⟩ := bind_inv h
  obtain ⟨a, vs0, _, _, ha, ev, _⟩ := own_at k e0
  refine ⟨_, ev, rb A F H S σ x S1 _ k e1 fun A1 F1 H1 v p1 s1 k1 r1 => ?_⟩
  cases x <;> simp only at h <;> try cases h
  rename_i n
  obtain ⟨cs, e2, h⟩ := bind_inv h
  obtain ⟨d', e3, h⟩ := bind_inv h
  cases h
  obtain ⟨vs, _, _, hv', r, _⟩ := cell_at k1 e2 (prefix_at p1 ha)
  cases rp_int_inv r1
  obtain ⟨w, ew, rw'⟩ := rps_atI r e3
  exact ⟨a, vs, _, w, rfl, rfl, SqL.of hv', ew, post A1 F1 H1 w p1 s1 k1 rw'⟩
def gLenO (i : Nat) : M D := fun S => (ownOf S i).bind fun o => some (.int o.2.length, S)
/-- own on the left, own on the right -/
def gOL (f : D → D → Option D) (i : Nat) (gb : M D) : M D := fun S => (ownOf S i).bind fun o => (gb S).bind fun p => (cellOf p.2 o.1).bind fun cs => match f (.list cs) p.1 with
  | some (.bool b) => some (.bool b, p.2)
  | _ => none
def gOR (f : D → D → Option D) (gb : M D) (i : Nat) : M D := fun S => (gb S).bind fun p => (ownOf p.2 i).bind fun o => match f p.1 (.list o.2) with
  | some (.bool b) => some (.bool b, p.2)
  | _ => none
/-! ### lists that are written: append, extend, pop, xs[k] = v -/
def setCell (S : Sx) (j : Nat) (cs : List D) : Sx := ⟨S.sl, S.os.set j (some (.lst cs))⟩
/-- xs.append(e), its value None -/
def gApp (i : Nat) (ge : M D) : M D := fun S => (ownOf S i).bind fun o => (ge S).bind fun p => (cellOf p.2 o.1).bind fun cs => if cs.length < sizeLine then some (.none, setCell p.2 o.1 (cs ++ [p.1])) else none
theorem e_append (i : Nat) (he : GE X e ge) (hN : X.N[i]? = some y := by rfl) (hv : Vis X.env.scope y := by first | exact Or.inl rfl | exact Or.inr (Or.inl rfl) | exact Or.inr (Or.inr rfl)) (hdy : (y == ("__debug__" : Str)) = false := by decide) (hcd : (y == ("__classdict__" : Str)) = false := by decide)
    (hbase : attributeBase (.Name y py) "append" X.env (eval (.Name y py) X.env) = eval (.Name y py) X.env := by rfl)
    (hfew : ((backTo pos (starEach [e] X.env)).all (fun x => !x.1) && (backToKw pos (keywordEach [] X.env)).all (fun x => x.1.isSome) && decide (([e] : List Expr).length + ([] : List Keyword).length + (if ([] : List Keyword).isEmpty then 0 else 1) < 30)) = true := by rfl)
    (hline : (apos.endLine == pos.line) = true := by rfl) (hst : starEach [e] X.env = (false, eval e X.env) :: starEach [] X.env := by rfl) : GE X (.Call (.Attribute (.Name y py) "append" apos) [e] [] pos) (gApp i ge) := by
  obtain ⟨t, pa, ra⟩ := he.ex
  refine ⟨_, pe_bm PySem.F.plainAttrs_list PySem.F.slot_list_append PySem.F.type_list_append mt_append (pe_var hN hv hdy hcd) (pa_cons pa pa_nil hst) hbase hfew hline hst (by rfl), fun A F H S σ d S' Q k h post => ?_⟩
  obtain ⟨⟨j, cs0⟩, e0, h⟩ := bind_inv h
  obtain ⟨⟨x, S1⟩, e1, h⟩ := bind_inv h
  obtain ⟨cs, e2, h⟩ := bind_inv h
  simp only at h
  split at h
  · rename_i hlt
    cases h
    obtain ⟨a, vs0, _, _, ha, ev, _, hv0, _, _⟩ := own_at k e0
    refine ⟨_, ev, .inl ⟨rfl, _, SqL.of hv0⟩, ra A F H S σ x S1 _ k e1 fun A1 F1 H1 v p1 s1 k1 r1 => ?_⟩
    obtain ⟨vs, ec, fa, hv', rr, hz⟩ := cell_at k1 e2 (prefix_at p1 ha)
    refine ⟨a, vs, v, rfl, rfl, hv', by rw [rr.length]; exact hlt, ?_⟩
    exact post A1 F1 _ _ p1 s1 (k1.cellSet ec (prefix_at p1 ha) trivial ⟨_, upd_same, rr.append (.cons r1 .nil), by rw [List.length_append]; exact hlt⟩) .non
  · cases h
/-- xs[k] = v -/
def qSetO (i : Nat) (gb ge : M D) : Sx → Option Out := fun S => (ge S).bind fun p => (ownOf p.2 i).bind fun o => (gb p.2).bind fun q => match q.1 with
  | .int n => (cellOf q.2 o.1).bind fun cs => (ixN cs.length n).bind fun m => some (.nx (setCell q.2 o.1 (cs.set m p.1)))
  | _ => none
theorem s_setO {spos : Pos} (i : Nat) (hb : GE X b gb) (he : GE X e ge) (hN : X.N[i]? = some y := by rfl) (hv : Vis X.env.scope y := by first | exact Or.inl rfl | exact Or.inr (Or.inl rfl) | exact Or.inr (Or.inr rfl)) (hdy : (y == ("__debug__" : Str)) = false := by decide) (hcd : (y == ("__classdict__" : Str)) = false := by decide)
    (ha : ∀ v, assign (.Subscript (.Name y py) b pos) X.env v = (do
      let ov ← holding [v] (eval (.Name y py) X.env)
      let iv ← holding [v, ov] (eval b X.env)
      standAt pos
      holding [v, ov, iv] (setItem ov iv v)
      release [v, ov, iv] []) := by intro _; rfl)
    (hs : swapsWithSole [.Subscript (.Name y py) b pos] e spos.line X.env = pure false := by rfl) (hw : swappedStores [.Subscript (.Name y py) b pos] e X.env = pure none := by rfl)
    (h1 : (assignEach [.Subscript (.Name y py) b pos] X.env).map (·.2) = [assign (.Subscript (.Name y py) b pos) X.env] := by rfl) : GS X P (.Assign [.Subscript (.Name y py) b pos] e spos) (qSetO i gb ge) := by
  obtain ⟨t, pe, re⟩ := he.ex
  obtain ⟨u, pb, rb⟩ := hb.ex
  refine ⟨_, ps_asg pe (pg_sub (pe_var hN hv hdy hcd) pb set_list ha) hs hw h1, fun B A0 A F H S σ o E hP s p k h post => ?_⟩
  obtain ⟨⟨d, S1⟩, e1, h⟩ := bind_inv h
  obtain ⟨⟨j, cs0⟩, e0, h⟩ := bind_inv h
  obtain ⟨⟨x, S2⟩, e2, h⟩ := bind_inv h
  cases x <;> simp only at h <;> try cases h
  rename_i n
  obtain ⟨cs, e3, h⟩ := bind_inv h
  obtain ⟨m, e4, h⟩ := bind_inv h
  cases h
  refine re A F H S σ d S1 _ k e1 fun A1 F1 H1 v p1 s1 k1 r1 => ?_
  obtain ⟨a, vs0, _, _, ha', ev, _, hv0, _, _⟩ := own_at k1 e0
  refine ⟨_, ev, rb A1 F1 H1 S1 σ _ S2 _ k1 e2 fun A2 F2 H2 w p2 s2 k2 r2 => ?_⟩
  cases rp_int_inv r2
  obtain ⟨vs, ec, fa, hv', rr, hz⟩ := cell_at k2 e3 (prefix_at p2 ha')
  refine ⟨a, vs, n, m, rfl, rfl, hv', by rw [rr.length]; exact e4, ?_⟩
  exact post A2 F2 _ _ (s.trans (s1.trans s2)) (p.trans (p1.trans p2)) (k2.cellSet ec (prefix_at p2 ha') trivial ⟨_, upd_same, Rps.set _ (r1.mono s2 _ _) rr, by rw [List.length_set]; exact hz⟩)

/-! ### x += e of numbers -/
end

/-! ### loops -/
def gLoop (gg : D → Sx → Option Sx) (body : Sx → Option Out) : List D → Sx → Option Out
  | [], S => some (.nx S)
  | d :: ds, S => (gg d S).bind fun S1 => (body S1).bind fun o => match o with
    | .nx S2 => gLoop gg body ds S2
    | .ct S2 => gLoop gg body ds S2
    | .bk S2 => some (.nx S2)
    | .rt d S2 => some (.rt d S2)
    | .ro j S2 => some (.ro j S2)
def qFor (gi : M (List D)) (gg : D → Sx → Option Sx) (body : Sx → Option Out) : Sx → Option Out := fun S => (gi S).bind fun p => gLoop gg body p.1 p.2
section
variable {K : PySem.W.Frag} {P : Hp → Prop}
/-- the loop, its walk over a heap W that B holds -/
theorem rd_loop {g : TG} {tb : TS} {gg : D → Sx → Option Sx} {body : Sx → Option Out} {tgt : List Nat} (hg : RdG K tgt g gg) (hb : RdS K P tb body) {B W : Hp} {A0 : List Addr} {J : It} {ds : List D} {E : Ends} {o : Out} (hP : P B) (w : Walk K W J ds) (hW : SameT W B)
    (post : OutP K B A0 o E) {A : List Addr} {F H : Hp} {S : Sx} {σ : L2.St} (s : SameT B F) (p : A0 <+: A) (k : Ok K A F H S σ) (e : gLoop gg body ds S = some o) :
    ∃ Wi : Nat → Nat → L2.St → Hp → Prop, (∃ m, Wi 0 m σ H) ∧ ∀ i m σ H, Wi i m σ H →
      (J.stop i H ∧ E.nx σ H) ∨ (J.go i H ∧ ∃ N : L2.St → Hp → Prop, (∀ σ' H', N σ' H' → ∃ m', m' < m ∧ Wi (i + 1) m' σ' H') ∧ ∀ x H', J.yld i H x H' → g x σ H' fun σ2 H2 => tb { E with nx := N, ct := N, bk := E.nx } σ2 H2) := by
  refine ⟨fun i m σ H => m = ds.length - i ∧ i ≤ ds.length ∧ ∃ A F S, SameT B F ∧ A0 <+: A ∧ Ok K A F H S σ ∧ gLoop gg body (ds.drop i) S = some o, ⟨ds.length, by simp, Nat.zero_le _, A, F, S, s, p, k, by simpa using e⟩, ?_⟩
  rintro i m σ1 H1 ⟨rfl, hil, A1, F1, S1, s1, p1, k1, e1⟩
  have sWH : SameT W H1 := (hW.trans s1).trans k1.sub.same.t
  by_cases hlt : i < ds.length
  · refine .inr ⟨w.go i _ sWH hlt, fun σ' H' => i + 1 ≤ ds.length ∧ ∃ A F S, SameT B F ∧ A0 <+: A ∧ Ok K A F H' S σ' ∧ gLoop gg body (ds.drop (i + 1)) S = some o, fun σ' H' h => ⟨ds.length - (i + 1), by omega, rfl, h⟩, fun x H' hy => ?_⟩
    rw [List.drop_eq_getElem_cons hlt] at e1
    obtain ⟨S2, e2, e1⟩ := bind_inv (show (gg ds[i] S1).bind _ = _ from e1)
    obtain ⟨o2, e3, e1⟩ := bind_inv e1
    have key : ∃ F2, SameT F1 F2 ∧ Ok K A1 F2 H' S1 σ1 ∧ Rp K F2 x ds[i] := by
      rcases w.yld i ds[i] _ x H' sWH (List.getElem?_eq_getElem hlt) hy with ⟨rfl, r⟩ | ⟨T, ws, es, rfl, hT, rfl, ed, r, hz2⟩
      · exact ⟨F1, SameT.refl _, k1, (r.mono hW _ _).mono s1 _ _⟩
      · obtain ⟨s3, k3, r3⟩ := k1.newTup hT (Rps.mono s1 _ _ (Rps.mono hW _ _ r)) hz2
        exact ⟨_, s3, k3, by rw [ed]; exact r3⟩
    obtain ⟨F2, s2, k2, rx⟩ := key
    refine hg A1 F2 H' S1 σ1 x ds[i] S2 _ k2 rx e2 fun A3 F3 H3 σ3 p3 s3 k3 _ => ?_
    refine hb B A0 A3 F3 H3 S2 σ3 o2 _ hP (s1.trans (s2.trans s3)) (p1.trans p3) k3 e3 ?_
    cases o2 with
    | nx S4 => exact fun A4 F4 H4 σ4 s4 p4 k4 => ⟨hlt, A4, F4, S4, s4, p4, k4, e1⟩
    | ct S4 => exact fun A4 F4 H4 σ4 s4 p4 k4 => ⟨hlt, A4, F4, S4, s4, p4, k4, e1⟩
    | bk S4 => cases e1; exact post
    | rt d S4 => cases e1; exact post
    | ro j S4 => cases e1; exact post
  · have ei : i = ds.length := by omega
    subst ei
    rw [List.drop_length] at e1
    cases e1
    exact .inl ⟨w.stop _ _ sWH (Nat.le_refl _), post A1 F1 H1 σ1 s1 p1 k1⟩
end
section
variable {X : Cx} {P : Hp → Prop} {pos : Pos} {tg iter : Expr} {body : List Stmt} {gi : M (List D)} {gg : D → Sx → Option Sx} {g : Sx → Option Out} {tgt : List Nat}
theorem same_outp {K : PySem.W.Frag} {B B' : Hp} {A0 A0' : List Addr} {o : Out} {E : Ends} (s : SameT B B') (p : A0 <+: A0') (h : OutP K B A0 o E) : OutP K B' A0' o E := by
  cases o with
  | nx S => exact fun A F H σ s1 p1 k => h A F H σ (s.trans s1) (p.trans p1) k
  | rt d S => exact fun A F H σ v s1 p1 k => h A F H σ v (s.trans s1) (p.trans p1) k
  | bk S => exact fun A F H σ s1 p1 k => h A F H σ (s.trans s1) (p.trans p1) k
  | ct S => exact fun A F H σ s1 p1 k => h A F H σ (s.trans s1) (p.trans p1) k
  | ro j S => exact fun A F H σ a s1 p1 k => h A F H σ a (s.trans s1) (p.trans p1) k
/-- over data that stand: the body may be judged over any base -/
theorem s_for (hp : PassesOwn (model X.prog X.w) X.A X.env X.xe) (hi : GI X tg iter gi) (hg : GG X tgt tg gg) (hb : GSs X P body g) (hPall : ∀ B, P B) (hc : X.calm = true := by rfl) (hs : ∀ x, foldedSetIterable iter X.env x = pure x := by intro _; rfl) : GS X P (.For tg iter body [] pos) (qFor gi gg g) := by
  obtain ⟨t, pi, ri⟩ := hi.ex
  obtain ⟨u, pg, rg⟩ := hg.ex
  obtain ⟨v, pb, rb⟩ := hb.ex
  refine ⟨_, ps_for hp hc pi pg pb hs, fun B A0 A F H S σ o E hP s p k e post => ?_⟩
  obtain ⟨⟨ds, S1⟩, e1, e⟩ := bind_inv e
  exact ri A F H S σ ds S1 _ k e1 fun A1 F1 H1 J p1 s1 k1 w _ => rd_loop rg rb (hPall F1) w (SameT.refl F1) (same_outp (s.trans s1) p post) (SameT.refl F1) (p1) k1 e
/-- over numbers -/
theorem s_for0 (hp : PassesOwn (model X.prog X.w) X.A X.env X.xe) (hi : GI0 X tg iter gi) (hg : GG X tgt tg gg) (hb : GSs X P body g) (hc : X.calm = true := by rfl) (hs : ∀ x, foldedSetIterable iter X.env x = pure x := by intro _; rfl) : GS X P (.For tg iter body [] pos) (qFor gi gg g) := by
  obtain ⟨t, pi, ri⟩ := hi.ex
  obtain ⟨u, pg, rg⟩ := hg.ex
  obtain ⟨v, pb, rb⟩ := hb.ex
  refine ⟨_, ps_for hp hc pi pg pb hs, fun B A0 A F H S σ o E hP s p k e post => ?_⟩
  obtain ⟨⟨ds, S1⟩, e1, e⟩ := bind_inv e
  exact ri A F H S σ ds S1 _ k e1 fun A1 F1 H1 J p1 s1 k1 w => rd_loop rg rb hP w (SameT.empty _) post (s.trans s1) (p.trans p1) k1 e
/-- while: so many turns at most -/
def gWhile (gt : M Bool) (body : Sx → Option Out) : Nat → Sx → Option Out
  | 0, _ => none
  | n + 1, S => (gt S).bind fun p => if p.1 = true then (body p.2).bind fun o => match o with
      | .nx S2 => gWhile gt body n S2
      | .ct S2 => gWhile gt body n S2
      | .bk S2 => some (.nx S2)
      | .rt d S2 => some (.rt d S2)
      | .ro j S2 => some (.ro j S2)
    else some (.nx p.2)
theorem s_while (n : Nat) {c : Expr} {gt : M Bool} (hp : PassesOwn (model X.prog X.w) X.A X.env X.xe) (hcnd : GT X c gt) (hb : GSs X P body g) : GS X P (.While c body [] pos) (gWhile gt g n) := by
  obtain ⟨t, pc, rc⟩ := hcnd.ex
  obtain ⟨v, pb, rb⟩ := hb.ex
  refine ⟨_, ps_while hp pc pb, fun B A0 A F H S σ o E hP s p k e post => ?_⟩
  refine ⟨fun m σ H => ∃ A F S, SameT B F ∧ A0 <+: A ∧ Ok X.K A F H S σ ∧ gWhile gt g m S = some o, ⟨n, A, F, S, s, p, k, e⟩, ?_⟩
  rintro m σ1 H1 ⟨A1, F1, S1, s1, p1, k1, e1⟩
  cases m with
  | zero => cases e1
  | succ m =>
    obtain ⟨⟨b, S2⟩, e2, e1⟩ := bind_inv (show (gt S1).bind _ = _ from e1)
    refine rc A1 F1 H1 S1 σ1 b S2 _ k1 e2 fun A2 F2 H2 p2 s2 k2 => ?_
    cases b with
    | false =>
      cases e1
      exact post A2 F2 H2 σ1 (s1.trans s2) (p1.trans p2) k2
    | true =>
      rw [if_pos rfl] at e1
      obtain ⟨o2, e3, e1⟩ := bind_inv e1
      show if true = true then _ else _
      rw [if_pos rfl]
      refine ⟨fun σ' H' => ∃ A F S, SameT B F ∧ A0 <+: A ∧ Ok X.K A F H' S σ' ∧ gWhile gt g m S = some o, fun σ' H' h => ⟨m, Nat.lt_succ_self m, h⟩, ?_⟩
      refine rb B A0 A2 F2 H2 S2 σ1 o2 _ hP (s1.trans s2) (p1.trans p2) k2 e3 ?_
      cases o2 with
      | nx S4 => exact fun A4 F4 H4 σ4 s4 p4 k4 => ⟨A4, F4, S4, s4, p4, k4, e1⟩
      | ct S4 => exact fun A4 F4 H4 σ4 s4 p4 k4 => ⟨A4, F4, S4, s4, p4, k4, e1⟩
      | bk S4 => cases e1; exact post
      | rt d S4 => cases e1; exact post
      | ro j S4 => cases e1; exact post
end
end Fu

set_option maxHeartbeats 4000000
namespace Fu
open PySem PySem.Spec PyProof.Rows L2 RZ
variable [TabsC]

/-! ### defs -/
def initS (n : Nat) (ds : List D) : List (Option R) := ds.map (fun d => some (.dat d)) ++ List.replicate (n - ds.length) none
/-- a def's value by data -/
def mF (n : Nat) (g : Sx → Option Out) : List D → Option D := fun ds => (g ⟨initS n ds, []⟩).bind fun o => match o with
  | .nx _ => some .none
  | .rt d _ => some d
  | _ => none
/-- .. where the first argument is a list that it writes -/
def mIO (n : Nat) (g : Sx → Option Out) : List D → List D → Option (D × List D) := fun cs ds => (g ⟨some (.own 0) :: initS (n - 1) ds, [some (.lst cs)]⟩).bind fun o => match o with
  | .nx S => (cellOf S 0).bind fun c => some (.none, c)
  | .rt d S => (cellOf S 0).bind fun c => some (d, c)
  | _ => none
theorem initS_in {n : Nat} {ds : List D} {i : Nat} {r : R} (h : (initS n ds)[i]? = some (some r)) : ∃ d, ds[i]? = some d ∧ r = .dat d := by
  unfold initS at h
  by_cases hi : i < ds.length
  · rw [List.getElem?_append_left (by simpa using hi), List.getElem?_map] at h
    obtain ⟨d', e1, e2⟩ := Option.map_eq_some_iff.mp h
    cases e2
    exact ⟨d', e1, rfl⟩
  · rw [List.getElem?_append_right (by simp; omega)] at h
    have := List.mem_of_getElem? h
    rw [List.mem_replicate] at this
    exact nomatch this.2
theorem start_at {N : List Str} {vs : List V} {i : Nat} {v : V} (h : vs[i]? = some v) : (L2.start N vs)[i]? = some (some v) := by
  unfold L2.start
  rw [List.getElem?_append_left (by rw [List.length_map]; exact (List.getElem?_eq_some_iff.mp h).1), List.getElem?_map, h]
  rfl
theorem start_dat {K : PySem.W.Frag} {H : Hp} {N : List Str} {vs : List V} {ds : List D} (r : Rps K H vs ds) (hl : vs.length ≤ N.length) {H' : Hp} (s : Sub H H') (tb : LamX.Tabs TabsC.T H) : Ok K [] H H' ⟨initS N.length ds, []⟩ (L2.start N vs) := by
  refine ⟨s, ?_, rfl, List.nodup_nil, fun i q h => ?_, fun j c h => by simp at h, fun a h => by simp at h, tb⟩
  · simp [initS, L2.start, r.length]
  · obtain ⟨d, e1, rfl⟩ := initS_in h
    obtain ⟨v, ev, rv⟩ := r.get e1
    exact ⟨v, start_at ev, .dat rv⟩
section
variable {P : Program} {w : World} {K : PySem.W.Frag} {mg : Str → Option Value} {base : Heap} {x qual : Str} {st : Stmt} {f : Addr} {fd : FuncData} {N ps : List Str} {k n : Nat} {g : Sx → Option Out}
abbrev AnyB : Hp → Prop := fun _ => True
/-- the context of the def's body -/
abbrev cxF (P : Program) (w : World) (K : PySem.W.Frag) (mg : Str → Option Value) (base : Heap) (N : List Str) (qual : Str) (st : Stmt) (f : Addr) (cdv : Value) (A : Around) (outer : List Env) (s : Shared) (H : Hp) (E : XK) : Cx := (cxOf CX0 P w K mg base N qual (defScope st) f cdv A outer s H E).nox
theorem fn_pure (F : Fun K x qual st f fd) (S : FnScope N ps (defScope st)) (hn : ps.length = n) (hN : n ≤ N.length)
    (body : ∀ (cdv : Value) (A : Around) (outer : List Env) (s : Shared) (H : Hp) (E : XK), Room k (A.deeper (envOfC qual (defScope st) s.heap.objs.size f cdv)) → GSs (cxF P w K mg base N qual st f cdv A outer s H E) AnyB (defBody st) g) :
    FnOk P w K mg base CX0 (k + 1) f fd ps (spF K n (mF N.length g)) := by
  refine F.ok S (spF_len hn) fun cdv A outer s H vs Q E hr h => ?_
  obtain ⟨ds, z, hd, r, e, tb, post⟩ := h
  obtain ⟨t, p, rd⟩ := (body cdv A outer s H E hr).ex
  refine ⟨t, p, ?_⟩
  obtain ⟨o, e1, e⟩ := bind_inv e
  have hl : vs.length ≤ N.length := by rw [r.length, hd]; exact hN
  refine rd H [] [] H H _ (L2.start N vs) o _ trivial (SameT.refl H) (List.prefix_refl _) (start_dat r hl (Sub.refl H) tb) e1 ?_
  cases o with
  | nx S => cases e; exact fun A1 F1 H1 σ1 s1 p1 k1 => post H1 .non (s1.trans k1.sub.same.t) .non
  | rt d S => cases e; exact fun A1 F1 H1 σ1 v s1 p1 k1 rv => post H1 v (s1.trans k1.sub.same.t) (rv.mono k1.sub.same.t _ _)
  | bk S => cases e
  | ct S => cases e
  | ro j S => cases e
theorem start_own {K : PySem.W.Frag} {F : Hp} {N : List Str} {a : Addr} {xs vs : List V} {cs ds : List D} (fa : F a = none) (rc : Rps K F xs cs) (hz : cs.length ≤ sizeLine) (r : Rps K F vs ds) (hl : vs.length + 1 ≤ N.length) (tb : LamX.Tabs TabsC.T F) :
    Ok K [a] F (upd F a (.lst xs)) ⟨some (.own 0) :: initS (N.length - 1) ds, [some (.lst cs)]⟩ (L2.start N (.ref a :: vs)) := by
  obtain ⟨m, M, rfl⟩ : ∃ m M, N = m :: M := by
    cases N with
    | nil => simp at hl
    | cons m M => exact ⟨m, M, rfl⟩
  have hl' : vs.length ≤ M.length := by simpa using hl
  have k := start_dat (N := M) r hl' (sub_one fa (o := .lst xs) trivial) tb
  have es : L2.start (m :: M) (.ref a :: vs) = some (.ref a) :: L2.start M vs := by
    unfold L2.start
    simp
  rw [es]
  simp only [List.length_cons, Nat.add_sub_cancel]
  refine ⟨k.sub, by simpa using k.len, rfl, by simp, fun i r h => ?_, fun j c h => ?_, fun b h => ?_, tb⟩
  · cases i with
    | zero =>
      simp at h
      subst h
      exact ⟨_, rfl, .own rfl⟩
    | succ i =>
      obtain ⟨v, e1, r1⟩ := k.rslot i r (by simpa using h)
      exact ⟨v, by simpa using e1, r1.mono (List.nil_prefix) (SameT.refl _) _ _⟩
  · cases j with
    | zero =>
      simp at h
      subst h
      exact ⟨a, rfl, fa, xs, upd_same, rc, hz⟩
    | succ j => simp at h
  · simp at h
    subst h
    exact ⟨_, upd_same, trivial⟩
theorem fn_io (F : Fun K x qual st f fd) (S : FnScope N ps (defScope st)) (hn : ps.length = n + 1) (hN : n + 1 ≤ N.length)
    (body : ∀ (cdv : Value) (A : Around) (outer : List Env) (s : Shared) (H : Hp) (E : XK), Room k (A.deeper (envOfC qual (defScope st) s.heap.objs.size f cdv)) → GSs (cxF P w K mg base N qual st f cdv A outer s H E) AnyB (defBody st) g) :
    FnOk P w K mg base CX0 (k + 1) f fd ps (spIO K n (mIO N.length g)) := by
  refine F.ok S (spIO_len hn) fun cdv A outer s H vs Q E hr h => ?_
  obtain ⟨a, xs, rest, F0, cs, ds, r, cs', rfl, fa, rfl, hz, rc, rr, hd, e, tb, post⟩ := h
  obtain ⟨t, p, rd⟩ := (body cdv A outer s _ E hr).ex
  refine ⟨t, p, ?_⟩
  obtain ⟨o, e1, e⟩ := bind_inv e
  have hl : rest.length + 1 ≤ N.length := by rw [rr.length, hd]; exact hN
  have fin : ∀ (A1 : List Addr) (F1 H1 : Hp) (σ1 : L2.St) (S1 : Sx) (v : V) (d : D) (c : List D), SameT F0 F1 → [a] <+: A1 → Ok K A1 F1 H1 S1 σ1 → Rp K F1 v d → cellOf S1 0 = some c → (d, c) = (r, cs') → Q v H1 := by
    intro A1 F1 H1 σ1 S1 v d c s1 p1 k1 rv hc ee
    cases ee
    have ha : A1[0]? = some a := prefix_at p1 rfl
    obtain ⟨us, ec, fa1, hv, rc1, hz1⟩ := cell_at k1 hc ha
    have s2 : SameT F1 (fun b => if b = a then none else H1 b) := L2.Same.t fun b o q => by
      show (if b = a then none else H1 b) = some o
      rw [if_neg (ne_of_none q fa1)]
      exact k1.sub.same b o q
    have := post (fun b => if b = a then none else H1 b) us v (s1.trans s2) (if_pos rfl) (Rps.mono s2 _ _ rc1) hz1 (rv.mono s2 _ _)
    rwa [show upd (fun b => if b = a then none else H1 b) a (.lst us) = H1 from ?_] at this
    funext b
    by_cases hb : b = a
    · subst hb; rw [upd_same, hv]
    · rw [upd_ne hb]; exact if_neg hb
  refine rd F0 [a] [a] F0 _ _ _ o _ trivial (SameT.refl F0) (List.prefix_refl _) (start_own fa rc hz rr hl tb) e1 ?_
  cases o with
  | nx S =>
    obtain ⟨c, hc, e⟩ := bind_inv e
    exact fun A1 F1 H1 σ1 s1 p1 k1 => fin A1 F1 H1 σ1 S .non .none c s1 p1 k1 .non hc (by cases e; rfl)
  | rt d S =>
    obtain ⟨c, hc, e⟩ := bind_inv e
    exact fun A1 F1 H1 σ1 v s1 p1 k1 rv => fin A1 F1 H1 σ1 S v d c s1 p1 k1 rv hc (by cases e; rfl)
  | bk S => cases e
  | ct S => cases e
  | ro j S => cases e
end
theorem hu65 {A : Around} {k : Nat} (hr : Room k A) : A.units + 65 < cLine := by have := hr.un; omega


/-! ### defs that hand back a new list -/
/-- the heap without the list at a -/
def lessH (H : Hp) (a : Addr) : Hp := fun b => if b = a then none else H b
theorem less_upd {H : Hp} {a : Addr} {o : HO} (h : H a = some o) : upd (lessH H a) a o = H := by
  funext b
  by_cases hb : b = a
  · subst hb; rw [upd_same, h]
  · rw [upd_ne hb]; exact if_neg hb
theorem less_same {K : PySem.W.Frag} {A : List Addr} {F H : Hp} {S : Sx} {σ : L2.St} (k : Ok K A F H S σ) {a : Addr} (fa : F a = none) : SameT F (lessH H a) := L2.Same.t fun b o q => by
  show (if b = a then none else H b) = some o
  rw [if_neg (ne_of_none q fa)]
  exact k.sub.same b o q
section
variable {P : Program} {w : World} {K : PySem.W.Frag} {mg : Str → Option Value} {base : Heap} {x qual : Str} {st : Stmt} {f : Addr} {fd : FuncData} {N ps : List Str} {k n : Nat} {g : Sx → Option Out}
end
/-! ### the script -/
section
variable {X : Cx} {pos p p2 py : Pos} {y : Str} {lo hi : Option Expr} {gl gh : M (Option Int)}
def scrOf (S : Sx) (i : Nat) : Option (List Int) := match S.sl[i]? with
  | some (some (.scr ns)) => some ns
  | _ => none
theorem scr_at {K : PySem.W.Frag} {A : List Addr} {F H : Hp} {S : Sx} {σ : L2.St} {i : Nat} {ns : List Int} (k : Ok K A F H S σ) (h : scrOf S i = some ns) : ns.length ≤ 63 ∧ ∃ a, σ[i]? = some (some (.ref a)) ∧ SqL K F a (ns.map V.int) := by
  unfold scrOf at h
  split at h
  · rename_i ns' e
    cases h
    exact k.sslot i _ e
  · cases h
def gScrSl (i : Nat) (gl gh : M (Option Int)) : M D := fun S => (scrOf S i).bind fun ns => (gl S).bind fun q => (gh q.2).bind fun r => some (.list ((cutL ns q.1 r.1).map .int), r.2)
theorem cut_map {α β : Type} (f : α → β) (xs : List α) (lo hi : Option Int) : cutL (xs.map f) lo hi = (cutL xs lo hi).map f := by
  unfold cutL
  rw [List.length_map, List.map_take, List.map_drop]
theorem e_scrSl (i : Nat) (hl : GO X lo gl) (hh : GO X hi gh) (hN : X.N[i]? = some y := by rfl) (hv : Vis X.env.scope y := by first | exact Or.inl rfl | exact Or.inr (Or.inl rfl) | exact Or.inr (Or.inr rfl)) (hdy : (y == ("__debug__" : Str)) = false := by decide) (hcd : (y == ("__classdict__" : Str)) = false := by decide) :
    GE X (.Subscript (.Name y py) (.Slice lo hi none p2) pos) (gScrSl i gl gh) := by
  obtain ⟨_, pl, rl⟩ := hl.ex
  obtain ⟨_, ph, rh⟩ := hh.ex
  refine ⟨_, pe_slice sl_list (pe_var hN hv hdy hcd) pl ph, fun A F H S σ d S' Q k e post => ?_⟩
  obtain ⟨ns, e0, e⟩ := bind_inv e
  obtain ⟨⟨l, S2⟩, h2, e⟩ := bind_inv e
  obtain ⟨⟨u, S3⟩, h3, e⟩ := bind_inv e
  cases e
  obtain ⟨hz, a, ev, hs⟩ := scr_at k e0
  refine ⟨_, ev, rl A F H S σ l _ _ k h2 fun A2 F2 H2 p2 s2 k2 => rh A2 F2 H2 _ σ u _ _ k2 h3 fun A3 F3 H3 p3 s3 k3 => ⟨a, _, rfl, k3.sub.same.seq (s3.seq (s2.seq hs)), fun p hp => ?_⟩⟩
  have e2 : cutV (ns.map V.int) l u = (cutL ns l u).map V.int := cut_map V.int ns l u
  rw [e2]
  obtain ⟨s4, k4, r4⟩ := k3.newList hp (Rps.ints (cutL ns l u)) (by
    rw [List.length_map]
    have h1 := cutL_le ns l u
    have h2 : (63 : Nat) ≤ sizeLine := by decide
    omega)
  exact post A3 _ _ _ (p2.trans p3) (s2.trans (s3.trans s4)) k4 r4
def gScrLen (i : Nat) : M D := fun S => (scrOf S i).bind fun ns => some (.int ns.length, S)
theorem e_scrLen (i : Nat) (hm : X.mg "len" = none) (hN : X.N[i]? = some y := by rfl) (hv : Vis X.env.scope y := by first | exact Or.inl rfl | exact Or.inr (Or.inl rfl) | exact Or.inr (Or.inr rfl)) (hdy : (y == ("__debug__" : Str)) = false := by decide) (hcd : (y == ("__classdict__" : Str)) = false := by decide)
    (hg : Gl X "len" := by rfl) (he : starEach [.Name y py] X.env = (false, eval (.Name y py) X.env) :: starEach [] X.env := by rfl) : GE X (.Call (.Name "len" p) [.Name y py] [] pos) (gScrLen i) := by
  refine ⟨_, pe_callB call_len hg hm PySem.boot_len (pa_cons (pe_var hN hv hdy hcd) pa_nil he) (by decide) (by decide) he (by rfl), fun A F H S σ d S' Q k h post => ?_⟩
  obtain ⟨ns, e0, h⟩ := bind_inv h
  cases h
  obtain ⟨hz, a, ev, hs⟩ := scr_at k e0
  exact ⟨_, ev, _, _, rfl, .inl ⟨_, k.sub.same.seq hs, (List.length_map _).symm⟩, post A F H _ (List.prefix_refl _) (SameT.refl F) k (.int _)⟩
end
/-- a def of the script that hands back a new list -/
def spScrN (K : PySem.W.Frag) (f : List Int → Option (List D)) : Sp := fun vs H Q _ => ∃ a ns zs, vs = [.ref a] ∧ SqL K H a (ns.map V.int) ∧ ns.length ≤ 63 ∧ f ns = some zs ∧ LamX.Tabs TabsC.T H ∧
  ∀ F p us, SameT H F → F p = none → Rps K F us zs → zs.length ≤ sizeLine → Q (.ref p) (upd F p (.lst us))
def mScrN (n : Nat) (g : Sx → Option Out) : List Int → Option (List D) := fun ns => (g ⟨some (.scr ns) :: List.replicate (n - 1) none, []⟩).bind fun o => match o with
  | .ro j S => cellOf S j
  | _ => none
/-- the law: True -/
def mScr (n : Nat) (g : Sx → Option Out) : List Int → Option D := fun ns => (g ⟨some (.scr ns) :: List.replicate (n - 1) none, []⟩).bind fun o => match o with
  | .rt d _ => some d
  | _ => none
/-- nothing that is written stands there -/
def NoLst (B : Hp) : Prop := ∀ b xs, B b ≠ some (.lst xs)
def spLaw (K : PySem.W.Frag) (f : List Int → Option D) : Sp := fun vs H Q _ => ∃ a ns, vs = [.ref a] ∧ SqL K H a (ns.map V.int) ∧ ns.length ≤ 63 ∧ NoLst H ∧ f ns = some (.bool true) ∧ LamX.Tabs TabsC.T H ∧ ∀ H', Q (.bl true) H'
theorem start_scr {K : PySem.W.Frag} {H : Hp} {N : List Str} {a : Addr} {ns : List Int} (h : SqL K H a (ns.map V.int)) (hz : ns.length ≤ 63) (hN : 1 ≤ N.length) (tb : LamX.Tabs TabsC.T H) : Ok K [] H H ⟨some (.scr ns) :: List.replicate (N.length - 1) none, []⟩ (L2.start N [.ref a]) := by
  refine ⟨Sub.refl H, ?_, rfl, List.nodup_nil, fun i r e => ?_, fun j c e => by simp at e, fun b e => by simp at e, tb⟩
  · simp [L2.start]
  · cases i with
    | zero =>
      simp at e
      subst e
      exact ⟨_, rfl, .scr hz h⟩
    | succ i =>
      have := List.mem_of_getElem? (show (List.replicate (N.length - 1) (none : Option R))[i]? = some (some r) by simpa using e)
      rw [List.mem_replicate] at this
      exact nomatch this.2
section
variable {P : Program} {w : World} {K : PySem.W.Frag} {mg : Str → Option Value} {base : Heap} {x qual : Str} {st : Stmt} {f : Addr} {fd : FuncData} {N ps : List Str} {k n : Nat} {g : Sx → Option Out}
theorem fn_scrN (F : Fun K x qual st f fd) (S : FnScope N ps (defScope st)) (hn : ps.length = 1) (hN : 1 ≤ N.length)
    (body : ∀ (cdv : Value) (A : Around) (outer : List Env) (s : Shared) (H : Hp) (E : XK), Room k (A.deeper (envOfC qual (defScope st) s.heap.objs.size f cdv)) → GSs (cxF P w K mg base N qual st f cdv A outer s H E) AnyB (defBody st) g) :
    FnOk P w K mg base CX0 (k + 1) f fd ps (spScrN K (mScrN N.length g)) := by
  refine F.ok S (fun vs H Q E h => by obtain ⟨a, ns, zs, rfl, _⟩ := h; exact hn.symm) fun cdv A outer s H vs Q E hr h => ?_
  obtain ⟨a, ns, zs, rfl, hs, hz, e, tb, post⟩ := h
  obtain ⟨t, p, rd⟩ := (body cdv A outer s H E hr).ex
  refine ⟨t, p, ?_⟩
  obtain ⟨o, e1, e⟩ := bind_inv e
  refine rd H [] [] H H _ _ o _ trivial (SameT.refl H) (List.prefix_refl _) (start_scr hs hz hN tb) e1 ?_
  cases o with
  | nx S => cases e
  | rt d S => cases e
  | bk S => cases e
  | ct S => cases e
  | ro j S =>
    intro A1 F1 H1 σ1 a s1 p1 k1 ha
    obtain ⟨us, ec, fa, hv, rc, hz⟩ := cell_at k1 e ha
    have := post (lessH H1 a) a us (s1.trans (less_same k1 fa)) (if_pos rfl) (Rps.mono (less_same k1 fa) _ _ rc) hz
    rwa [less_upd hv] at this
theorem fn_law {Pb : Hp → Prop} (hPb : ∀ B, NoLst B → Pb B) (F : Fun K x qual st f fd) (S : FnScope N ps (defScope st)) (hn : ps.length = 1) (hN : 1 ≤ N.length)
    (body : ∀ (cdv : Value) (A : Around) (outer : List Env) (s : Shared) (H : Hp) (E : XK), Room k (A.deeper (envOfC qual (defScope st) s.heap.objs.size f cdv)) → GSs (cxF P w K mg base N qual st f cdv A outer s H E) Pb (defBody st) g) :
    FnOk P w K mg base CX0 (k + 1) f fd ps (spLaw K (mScr N.length g)) := by
  refine F.ok S (fun vs H Q E h => by obtain ⟨a, ns, rfl, _⟩ := h; exact hn.symm) fun cdv A outer s H vs Q E hr h => ?_
  obtain ⟨a, ns, rfl, hs, hz, hB, e, tb, post⟩ := h
  obtain ⟨t, p, rd⟩ := (body cdv A outer s H E hr).ex
  refine ⟨t, p, ?_⟩
  obtain ⟨o, e1, e⟩ := bind_inv e
  refine rd H [] [] H H _ _ o _ (hPb H hB) (SameT.refl H) (List.prefix_refl _) (start_scr hs hz hN tb) e1 ?_
  cases o with
  | nx S => cases e
  | rt d S =>
    cases e
    intro A1 F1 H1 σ1 v s1 p1 k1 rv
    cases rv
    exact post H1
  | bk S => cases e
  | ct S => cases e
  | ro j S => cases e
end

/-! ### a def by its name -/
def Has (P : Program) (w : World) (K : PySem.W.Frag) (mg : Str → Option Value) (base : Heap) (x : Str) (k : Nat) (ps : List Str) (sp : Sp) : Prop :=
  ∃ f fd, mg x = some (.ref f) ∧ PySem.W.keepIn K (.ref f) = true ∧ L2.Binds K fd ps [] ∧ FnOk P w K mg base CX0 k f fd ps sp
def DefAt (K : PySem.W.Frag) (mg : Str → Option Value) (x : Str) (st : Stmt) (ps : List Str) : Prop := ∃ f fd, mg x = some (.ref f) ∧ Fun K x x st f fd ∧ L2.Binds K fd ps []
theorem Has.imp {P : Program} {w : World} {K : PySem.W.Frag} {mg : Str → Option Value} {base : Heap} {x : Str} {k : Nat} {ps : List Str} {sp sp' : Sp} (h : Has P w K mg base x k ps sp) (i : ∀ vs H Q E, sp' vs H Q E → sp vs H Q E) : Has P w K mg base x k ps sp' :=
  let ⟨f, fd, a, b, c, F⟩ := h; ⟨f, fd, a, b, c, F.imp i⟩
section
variable {P : Program} {w : World} {K : PySem.W.Frag} {mg : Str → Option Value} {base : Heap} {x : Str} {st : Stmt} {N ps : List Str} {k n : Nat} {g : Sx → Option Out}
abbrev Body (P : Program) (w : World) (K : PySem.W.Frag) (mg : Str → Option Value) (base : Heap) (N : List Str) (x : Str) (st : Stmt) (k : Nat) (Pb : Hp → Prop) (g : Sx → Option Out) : Prop :=
  ∀ (f : Addr) (cdv : Value) (A : Around) (outer : List Env) (s : Shared) (H : Hp) (E : XK), Room k (A.deeper (envOfC x (defScope st) s.heap.objs.size f cdv)) → GSs (cxF P w K mg base N x st f cdv A outer s H E) Pb (defBody st) g
theorem has_pure (D : DefAt K mg x st ps) (S : FnScope N ps (defScope st)) (hn : ps.length = n) (hN : n ≤ N.length) (body : Body P w K mg base N x st k AnyB g) : Has P w K mg base x (k + 1) ps (spF K n (mF N.length g)) :=
  let ⟨f, fd, m, F, b⟩ := D; ⟨f, fd, m, F.kp, b, fn_pure F S hn hN (body f)⟩
theorem has_io (D : DefAt K mg x st ps) (S : FnScope N ps (defScope st)) (hn : ps.length = n + 1) (hN : n + 1 ≤ N.length) (body : Body P w K mg base N x st k AnyB g) : Has P w K mg base x (k + 1) ps (spIO K n (mIO N.length g)) :=
  let ⟨f, fd, m, F, b⟩ := D; ⟨f, fd, m, F.kp, b, fn_io F S hn hN (body f)⟩
theorem has_scrN (D : DefAt K mg x st ps) (S : FnScope N ps (defScope st)) (hn : ps.length = 1) (hN : 1 ≤ N.length) (body : Body P w K mg base N x st k AnyB g) : Has P w K mg base x (k + 1) ps (spScrN K (mScrN N.length g)) :=
  let ⟨f, fd, m, F, b⟩ := D; ⟨f, fd, m, F.kp, b, fn_scrN F S hn hN (body f)⟩
end
section
variable {X : Cx} {pos p p2 py : Pos} {x y : Str} {e : Expr} {es : List Expr} {gs : M (List D)} {k n : Nat} {ps : List Str}
theorem e_callH {f : List D → Option D} (h : Has X.prog X.w X.K X.mg X.base x k ps (spF X.K n f)) (hr : Room k X.A) (ha : GA X (e :: es) gs) (hg : Gl X x := by rfl) (hdb : (x == ("__debug__" : Str)) = false := by decide)
    (he : starEach (e :: es) X.env = (false, eval e X.env) :: starEach es X.env := by rfl) (hpl : (backTo pos (starEach es X.env)).any (·.1) = false := by rfl) : GE X (.Call (.Name x p) (e :: es) [] pos) (gCallF n f gs) :=
  let ⟨fa, fd, m, kp, b, F⟩ := h; e_call F hr m kp b pass0 ha hg hdb he hpl
theorem e_callHIO {f : List D → List D → Option (D × List D)} (i : Nat) (h : Has X.prog X.w X.K X.mg X.base x k ps (spIO X.K n f)) (hr : Room k X.A) (ha : GA X es gs)
    (hN : X.N[i]? = some y := by rfl) (hv : Vis X.env.scope y := by first | exact Or.inl rfl | exact Or.inr (Or.inl rfl) | exact Or.inr (Or.inr rfl)) (hdy : (y == ("__debug__" : Str)) = false := by decide) (hcd : (y == ("__classdict__" : Str)) = false := by decide)
    (hg : Gl X x := by rfl) (hdb : (x == ("__debug__" : Str)) = false := by decide) (he : starEach (.Name y py :: es) X.env = (false, eval (.Name y py) X.env) :: starEach es X.env := by rfl) (hpl : (backTo pos (starEach es X.env)).any (·.1) = false := by rfl) :
    GE X (.Call (.Name x p) (.Name y py :: es) [] pos) (gIO i n f gs) :=
  let ⟨fa, fd, m, kp, b, F⟩ := h; e_callIO i F hr m kp b pass0 ha hN hv hdy hcd hg hdb he hpl
theorem mix_new {F1 H1 F' : Hp} {p : Addr} {o : HO} (hp : mixH F1 H1 (upd F' p o) p = some o) (hn : F' p = none) : mixH F1 H1 (upd F' p o) = upd (mixH F1 H1 F') p o := by
  funext b
  by_cases hb : b = p
  · subst hb; rw [upd_same, hp]
  · rw [upd_ne hb]
    unfold mixH
    rw [upd_ne hb]
def gCallScr (i : Nat) (f : List Int → Option (List D)) : M D := fun S => (scrOf S i).bind fun ns => (f ns).bind fun z => some (.list z, S)
theorem n_callScr {f : List Int → Option (List D)} (i : Nat) (h : Has X.prog X.w X.K X.mg X.base x k ps (spScrN X.K f)) (hr : Room k X.A)
    (hN : X.N[i]? = some y := by rfl) (hv : Vis X.env.scope y := by first | exact Or.inl rfl | exact Or.inr (Or.inl rfl) | exact Or.inr (Or.inr rfl)) (hdy : (y == ("__debug__" : Str)) = false := by decide) (hcd : (y == ("__classdict__" : Str)) = false := by decide)
    (hg : Gl X x := by rfl) (hdb : (x == ("__debug__" : Str)) = false := by decide) (he : starEach [.Name y py] X.env = (false, eval (.Name y py) X.env) :: starEach [] X.env := by rfl) : GN X (.Call (.Name x p) [.Name y py] [] pos) (gCallScr i f) := by
  obtain ⟨fa, fd, m, kp, b, F⟩ := h
  refine ⟨_, pe_callF F hr hg m kp b .nil pass0 (pa_cons (pe_var hN hv hdy hcd) pa_nil he) hdb he (by rfl), fun A F H S σ d S' Q k h post => ?_⟩
  obtain ⟨ns, h1, h⟩ := bind_inv h
  obtain ⟨z, h2, h⟩ := bind_inv h
  cases h
  obtain ⟨hz, a, ev, hs⟩ := scr_at k h1
  refine ⟨_, ev, F, k.sub, a, ns, z, by rfl, hs, hz, h2, k.tab, fun F' L us sm hL ru hz => ⟨fun b xs q => by
      rw [upd_ne (ne_of_none (sm.old b _ q trivial) hL)]; exact sm.old b _ q trivial, fun lost => ?_⟩⟩
  have lostF : ∀ b o, H b = some o → F b = none → F' b = none := fun b o ho hf => by
    have := lost b o ho hf
    by_cases hb : b = L
    · subst hb; exact hL
    · rwa [upd_ne hb] at this
  have hLH : H L = none := by
    cases q : H L with
    | none => rfl
    | some u =>
      cases q2 : F L with
      | none => have := lost L u q q2; rw [upd_same] at this; cases this
      | some v => obtain ⟨v', e'⟩ := sm.stay L v q2; rw [e'] at hL; cases hL
  rw [mix_new (by rw [mix_free hLH, upd_same]) hL]
  exact post A F' _ L us z (List.prefix_refl _) sm (k.mix sm lostF) (by rw [mix_free hLH]; exact hL) rfl ru hz
theorem e_gintE {i : Int} (hm : ∃ t, X.mg x = some (.int i t)) (hg : Gl X x := by rfl) (hd : (x == ("__debug__" : Str)) = false := by decide) : GE X (.Name x pos) (gC (.int i)) := let ⟨_, m⟩ := hm; e_gint m hg hd
theorem e_gstrE {z : Str} (hm : ∃ t, X.mg x = some (.str z t)) (hg : Gl X x := by rfl) (hz : z.length ≤ sizeLine := by decide) (hd : (x == ("__debug__" : Str)) = false := by decide) : GE X (.Name x pos) (gC (.str z)) := let ⟨_, m⟩ := hm; e_gstr m hg hz hd
end
end Fu

set_option maxHeartbeats 4000000
namespace Fu
open PySem PySem.Spec PyProof.Rows L2 RZ
variable [TabsC]

section
variable {K : PySem.W.Frag} {F H : Hp}
end

/-! ### sorted(xs) of data -/
def sortOk (xs : List D) : Bool := (xs.all fun d => xs.all fun e => PySem.W.alike d e) && ((xs.all fun d => match d with
  | .tuple (_ :: _) => true
  | _ => false) || (xs.all fun d => match d with
  | .none => false
  | .tuple _ => false
  | _ => true)) && xs.all fun d => d.depth ≤ 20 && d.canLay0
abbrev leD : D → D → Bool := PySem.W.dataLe false (fun d : D => d)
def dSorted : List D → Option D
  | [.list xs] => if sortOk xs = true then some (.list (xs.mergeSort leD)) else none
  | [.tuple xs] => none
  | _ => none
theorem sortOk_all {xs : List D} (h : sortOk xs = true) : PySem.W.AllAlike xs ∧ PySem.W.Sortable xs ∧ ∀ d ∈ xs, d.depth ≤ 20 ∧ d.canLay0 = true := by
  unfold sortOk at h
  rw [Bool.and_eq_true, Bool.and_eq_true, Bool.or_eq_true] at h
  obtain ⟨⟨h1, h2⟩, h3⟩ := h
  refine ⟨fun d hd e he => List.all_eq_true.mp (List.all_eq_true.mp h1 d hd) e he, ?_, fun d hd => ?_⟩
  · rcases h2 with h2 | h2
    · refine .inl fun d hd => ?_
      have := List.all_eq_true.mp h2 d hd
      split at this
      · exact ⟨_, _, rfl⟩
      · cases this
    · refine .inr fun d hd => ?_
      have := List.all_eq_true.mp h2 d hd
      refine ⟨fun e => ?_, fun ys e => ?_⟩
      · rw [e] at this; cases this
      · rw [e] at this; cases this
  · have := List.all_eq_true.mp h3 d hd
    rw [Bool.and_eq_true] at this
    exact ⟨of_decide_eq_true this.1, this.2⟩
/-- its reading: values and data side by side -/
def rSorted (K : PySem.W.Frag) : List V → Hp → VK → Prop := fun xs H Q => ∃ (a : Addr) (ps : List (V × D)), xs = [.ref a] ∧ SqL K H a (ps.map (·.1)) ∧ (∀ p ∈ ps, Dp K H p.1 p.2) ∧ sortOk (ps.map (·.2)) = true ∧ ps.length ≤ sizeLine ∧
  ∀ p, H p = none → Q (.ref p) (upd H p (.lst ((ps.mergeSort (PySem.W.dataLe false fun q : V × D => q.2)).map (·.1))))
theorem each_mk {X : Cx} {pins : List (Addr × Obj)} {σ : L2.St} {H : Hp} {s : Shared} (I : Inv X pins σ H s) : ∀ {ps : List (V × D)} {us : List Value}, Vals (ps.map (·.1)) us → (∀ p ∈ ps, Dp X.K H p.1 p.2) →
    PySem.W.EachIs (fun (v : Value) (b : V × D) => RelV b.1 v) us ps ∧ PySem.W.EachIs (fun (v : Value) (b : V × D) => ∃ as, Reads s.heap v b.2 as) us ps
  | [], us, r, _ => by cases r; exact ⟨.nil, .nil⟩
  | p :: ps, us, r, h => by
    rw [List.map_cons] at r
    cases r with
    | cons r1 r2 =>
      obtain ⟨a, b⟩ := each_mk I r2 fun q hq => h q (List.mem_cons_of_mem _ hq)
      exact ⟨.cons r1 a, .cons (Dp.reads I _ _ _ (h p List.mem_cons_self) r1) b⟩
theorem each_vals : ∀ {ps : List (V × D)} {us : List Value}, PySem.W.EachIs (fun (v : Value) (b : V × D) => RelV b.1 v) us ps → Vals (ps.map (·.1)) us
  | [], _, .nil => .nil
  | _ :: _, _, .cons r t => .cons r (each_vals t)
theorem call_sortedAll {X : Cx} {k : Nat} (hr : Room k X.A) : CallR X (.builtin "sorted") (rSorted X.K) := by
  intro pins s σ H xs us Q I r h
  obtain ⟨a, ps, rfl, hs, hd, so, hz, q⟩ := h
  obtain ⟨u, rfl, ru⟩ := vals1 r
  cases ru
  obtain ⟨its, rv, pl, hzl⟩ := I.list hs
  obtain ⟨e1, e2⟩ := each_mk I rv hd
  obtain ⟨al, sb, dp⟩ := sortOk_all so
  have hun := hr.un
  refine PySem.W.sorted_data (β := V × D) (enc := fun b => b.2) pl.isList e1 e2 al sb hz (fun b hb => ?_) fun out ho eo => ?_
  · have := (dp b.2 (List.mem_map.mpr ⟨b, hb, rfl⟩)).1
    omega
  · have rv2 := each_vals eo
    obtain ⟨c, hc⟩ := sortedAll_at s.heap its out.toArray
    refine ⟨.ref (s.heap.objs.size + 1), _, I.laid (t' := s.toks) (o := .lst ((ps.mergeSort (PySem.W.dataLe false fun q : V × D => q.2)).map (·.1))) (fun b o hb => sortedAll_old hb) (Nat.le_succ _) ⟨?_, out, c, rv2, hc⟩, rfl, q _ (I.hok.fresh (Nat.le_succ _))⟩
    rw [List.length_map, List.length_mergeSort]
    exact hz
theorem zip_rps {K : PySem.W.Frag} {F : Hp} : ∀ {vs : List V} {ds : List D}, Rps K F vs ds → (vs.zip ds).map (·.1) = vs ∧ (vs.zip ds).map (·.2) = ds ∧ ∀ p ∈ vs.zip ds, Rp K F p.1 p.2
  | _, [], h => by cases h; exact ⟨rfl, rfl, fun p hp => by cases hp⟩
  | _, d :: ds, h => by
    cases h with
    | cons h1 h2 =>
      obtain ⟨a, b, c⟩ := zip_rps h2
      refine ⟨by rw [List.zip_cons_cons, List.map_cons, a], by rw [List.zip_cons_cons, List.map_cons, b], fun p hp => ?_⟩
      rw [List.zip_cons_cons] at hp
      rcases List.mem_cons.mp hp with rfl | hp
      · exact h1
      · exact c p hp
theorem rps_zip {K : PySem.W.Frag} {F : Hp} : ∀ {ps : List (V × D)}, (∀ p ∈ ps, Rp K F p.1 p.2) → Rps K F (ps.map (·.1)) (ps.map (·.2))
  | [], _ => .nil
  | p :: ps, h => .cons (h p List.mem_cons_self) (rps_zip fun q hq => h q (List.mem_cons_of_mem _ hq))
theorem rd_sorted {K : PySem.W.Frag} : RdC K (rSorted K) dSorted := by
  intro A F H S σ xs ds z Q k r h post
  unfold dSorted at h
  split at h
  · split at h
    · rename_i ys hso
      cases h
      obtain ⟨v, rfl, rv⟩ := rps1 r
      obtain ⟨a, vs, rfl, h1, h2, h3⟩ := rp_list_inv rv
      obtain ⟨z1, z2, z3⟩ := zip_rps h2
      have hl : (vs.zip ys).length = ys.length := by rw [List.length_zip, h2.length]; omega
      refine ⟨a, vs.zip ys, rfl, SqL.of (by rw [z1]; exact k.sub.same _ _ h1), fun p hp => ?_, by rw [z2]; exact hso, by rw [hl]; exact h3, fun p hp => ?_⟩
      · exact Rp.dp _ _ ((sortOk_all hso).2.2 p.2 (by rw [← z2]; exact List.mem_map.mpr ⟨p, hp, rfl⟩)).2 ((z3 p hp).mono k.sub.same.t _ _)
      · have e2 : ((vs.zip ys).mergeSort (PySem.W.dataLe false fun q : V × D => q.2)).map (·.2) = ys.mergeSort leD := by
          have := List.map_mergeSort (s := leD) (r := PySem.W.dataLe false fun q : V × D => q.2) (f := fun q : V × D => q.2) (l := vs.zip ys) (fun a _ b _ => rfl)
          rw [this, z2]
        have rr := rps_zip (K := K) (F := F) (ps := (vs.zip ys).mergeSort (PySem.W.dataLe false fun q : V × D => q.2)) fun p hp => z3 p (List.mem_mergeSort.mp hp)
        rw [e2] at rr
        obtain ⟨s1, k1, r1⟩ := k.newList hp rr (by rw [List.length_mergeSort]; exact h3)
        exact post _ _ _ s1 k1 r1
    · cases h
  · cases h
  · cases h

/-! ### max(xs), min(xs) of data -/
/-! ### sum(xs) of ints -/
section
variable {X : Cx} {pos p p2 : Pos} {e : Expr} {es : List Expr} {gs : M (List D)} {k : Nat}
theorem e_sorted (hr : Room k X.A) (hm : X.mg "sorted" = none) (ha : GA X [e] gs) (hg : Gl X "sorted" := by rfl) (he : starEach [e] X.env = (false, eval e X.env) :: starEach [] X.env := by rfl) : GE X (.Call (.Name "sorted" p) [e] [] pos) (gCall dSorted gs) :=
  e_callB (call_sortedAll hr) rd_sorted hm (by decide +kernel) ha hg (he := he) (hpl := by rfl)
end
end Fu

set_option maxHeartbeats 4000000
namespace Fu
open PySem PySem.Spec PyProof.Rows L2
variable [TabsC]
/-! ### list(range(..)), xs[::-1], len(set(ints)) -/
section
variable {X : Cx} {pos p p2 p3 p4 : Pos} {a b e e2 : Expr} {ga gb ge ge2 : M D}
theorem rps_rg {K : PySem.W.Frag} {F : Hp} (lo hi : Int) : Rps K F (rgV lo hi) (rng lo (hi - lo).toNat) := by
  have h := Rps.ints (K := K) (H := F) ((List.range (hi - lo).toNat).map fun i : Nat => lo + (i : Int))
  rw [List.map_map, List.map_map] at h
  exact h
def gListRng1 (g : M D) : M D := fun S => (g S).bind fun q => match q.1 with
  | .int j => if -4611686018427387904 ≤ j ∧ j ≤ 16777216 then some (.list (rng 0 j.toNat), q.2) else none
  | _ => none
theorem n_listRng1 (hm : X.mg "list" = none) (hr : X.mg "range" = none) (ha : GE X e ge) (hc : X.calm = true := by rfl) (hg : Gl X "list" := by rfl) (hg2 : Gl X "range" := by rfl)
    (hs : starEach [e] X.env = (false, eval e X.env) :: starEach [] X.env := by rfl) (hs2 : starEach [.Call (.Name "range" p2) [e] [] p3] X.env = (false, eval (.Call (.Name "range" p2) [e] [] p3) X.env) :: starEach [] X.env := by rfl) :
    GN X (.Call (.Name "list" p) [.Call (.Name "range" p2) [e] [] p3] [] pos) (gListRng1 ge) := by
  obtain ⟨_, pa, ra⟩ := ha.ex
  refine ⟨_, pe_listRg hc hg hm (prg_1 hg2 hr pa hs) hs2, fun A F H S σ d S' Q k h post => ?_⟩
  obtain ⟨⟨x, S1⟩, h1, h⟩ := bind_inv h
  cases x with
  | int j =>
    simp only at h
    split at h
    · rename_i hj
      cases h
      refine ra A F H S σ _ _ _ k h1 fun A1 F1 H1 v s1 f1 k1 r1 => ?_
      cases rp_int_inv r1
      refine ⟨j, rfl, ⟨by omega, by omega, by omega, by omega, by omega⟩, fun q hq => post A1 F1 H1 q _ _ s1 f1 k1 hq rfl ?_ ?_⟩
      · have := rps_rg (K := X.K) (F := F1) 0 j
        rwa [Int.sub_zero] at this
      · rw [rng_len, sizeLine_eq]; omega
    · cases h
  | _ => cases h
/-- how many unlike ones -/
def unlike (ns : List Int) : Nat := (PyProof.Rows.firstMet (fun i => ns.getD i 0) ns.length).length
end
end Fu

set_option maxHeartbeats 4000000
namespace Fu
open PySem PySem.Spec PyProof.Rows L2
variable [TabsC]
/-! ### promises of functions that may ask what is being shown: with no show under way around them -/
structure FnG (P : Program) (w : World) (K : PySem.W.Frag) (mg : Str → Option Value) (base : Heap) (k : Nat) (fa : Addr) (fd : FuncData) (ps : List Str) (sp : Sp) : Prop where
  len : ∀ vs H Q E, sp vs H Q E → vs.length = ps.length
  go : ∀ (A : Around) (out : List Env) (t : Shared) (H : Hp) (ar : Args) (us : List Value) (vs : List V) (Q : VK) (E : XK), Room k A → A.guards = some [] → Env0 P w K mg base A out t H → BindsTo t fd ar (ps.zip us) → Vals vs us → sp vs H Q E →
    codeAny (model P w) A (.call (.ref fa) ar) (CR CX0 out P w H t Q E) t
section
variable {P : Program} {w : World} {K : PySem.W.Frag} {mg : Str → Option Value} {base : Heap} {x qual : Str} {st : Stmt} {f : Addr} {fd : FuncData} {N ps : List Str} {k n : Nat} {sp : Sp}
theorem FnG.of (F : FnOk P w K mg base CX0 k f fd ps sp) : FnG P w K mg base k f fd ps sp := ⟨F.len, fun A out t H ar us vs Q E hr _ => F.run A out t H ar us vs Q E hr⟩
end
section
variable {X : Cx} {k : Nat} {f : Addr} {fd : FuncData} {ps : List Str} {sp : Sp} {E : XK} {x : Str} {p pos : Pos} {e : Expr} {es : List Expr} {t : TA}
end
/-! ### the law's call, from such a promise -/
end Fu

set_option maxHeartbeats 4000000
namespace Fu
open PySem PySem.Spec PyProof.Rows L2
variable [TabsC]
/-! ### defs whose promise wants that no show is under way -/
section
variable {P : Program} {w : World} {K : PySem.W.Frag} {mg : Str → Option Value} {base : Heap} {x qual : Str} {st : Stmt} {f : Addr} {fd : FuncData} {N ps : List Str} {k n : Nat} {g : Sx → Option Out}
end
section
variable {X : Cx} {pos p p2 : Pos} {x : Str} {e : Expr} {es : List Expr} {gs : M (List D)} {f : List D → Option D} {k n : Nat} {fa : Addr} {fd : FuncData} {ps : List Str} {E : XK}
end
section
variable {P : Program} {w : World} {K : PySem.W.Frag} {mg : Str → Option Value} {base : Heap} {x : Str} {st : Stmt} {N ps : List Str} {k n : Nat} {g : Sx → Option Out}
end
section
variable {X : Cx} {pos p p2 py : Pos} {x y : Str} {e : Expr} {es : List Expr} {gs : M (List D)} {k n : Nat} {ps : List Str}
end
end Fu

set_option maxHeartbeats 4000000
namespace Fu
open PySem PySem.Spec PyProof.Rows L2
variable [TabsC]
/-! ### repr of lists and tuples -/
def showOk (d : D) : Bool := d.showable && !d.hasDict && d.canLay0 && decide (d.depth ≤ 60) && decide (d.shown.length ≤ 16777216)
section
variable {X : Cx} {pos p p2 : Pos} {e : Expr} {es : List Expr} {gs : M (List D)} {k : Nat}
end
end Fu

set_option maxHeartbeats 4000000
namespace Fu
open PySem PySem.Spec PyProof.Rows L2
variable [TabsC]
/-! ### a < b < c, list + list as a new list -/
section
variable {X : Cx} {pos p p2 : Pos} {a b c e : Expr} {ga gb gc : M D} {op op' : CmpOp}
end
end Fu

set_option maxHeartbeats 4000000
namespace Fu
open PySem PySem.Spec PyProof.Rows L2
variable [TabsC]
/-! ### xs.count(x), slices as new lists -/
section
variable {X : Cx} {pos p p2 apos : Pos} {a b e o : Expr} {ga gb ge go : M D} {k : Nat} {gl gh : M (Option Int)} {lo hi : Option Expr}
end
end Fu

set_option maxHeartbeats 4000000
namespace Fu
open PySem PySem.Spec PyProof.Rows L2
variable [TabsC]
/-! ### an item of an own list as a target among others -/
section
variable {X : Cx} {pos p p2 py : Pos} {y : Str} {b : Expr} {gb : M D} {tgt : List Nat}
end
end Fu

set_option maxHeartbeats 4000000
namespace Fu
open PySem PySem.Spec PyProof.Rows L2
variable [TabsC]
/-! ### a def that calls itself, where it may go no deeper: nothing is promised -/
section
variable {P : Program} {w : World} {K : PySem.W.Frag} {mg : Str → Option Value} {base : Heap} {x : Str} {st : Stmt} {ps : List Str} {k n : Nat}
end
end Fu

set_option maxHeartbeats 4000000
namespace Fu
open PySem PySem.Spec PyProof.Rows L2 RZ
variable [TabsC]
/-! ### slices of a list that is written: the list stays one's own -/
section
variable {X : Cx} {P : Hp → Prop} {pos py p p2 p3 p4 apos : Pos} {x y : Str} {a b c d e : Expr} {es : List Expr} {ga gb gc gd ge : M D} {gs : M (List D)} {lo hi : Option Expr} {gl gh : M (Option Int)}
/-! ### xs += e, a list that is written -/
def qAugL (i : Nat) (ge : M D) : Sx → Option Out := fun S => (ownOf S i).bind fun o => (ge S).bind fun p => (cellOf p.2 o.1).bind fun cs => match p.1 with
  | .list xs => if cs.length + xs.length ≤ sizeLine then some (.nx ⟨p.2.sl.set i (some (.own o.1)), p.2.os.set o.1 (some (.lst (cs ++ xs)))⟩) else none
  | _ => none
theorem s_augL (i : Nat) (hN : X.N.Nodup) (he : GE X e ge) (hx : Loc X.env.scope y := by first | exact Or.inl rfl | exact Or.inr rfl) (hi : X.N[i]? = some y := by rfl)
    (hf : X.fn y = true ∨ X.env.scope.names.lookup y = some .local := by first | exact .inl rfl | exact .inr rfl | assumption) : GS X P (.AugAssign (.Name y py) .Add e pos) (qAugL i ge) := by
  obtain ⟨t, pe, re⟩ := he.ex
  refine ⟨_, ps_aug hN hi hx pe (show PIp X .Add rExt2 from iop_ext) hf, fun B A0 A F H S σ o E hP s p k h post => ?_⟩
  obtain ⟨⟨j, cs0⟩, e0, h⟩ := bind_inv h
  obtain ⟨⟨d, S1⟩, e1, h⟩ := bind_inv h
  obtain ⟨cs, e2, h⟩ := bind_inv h
  cases d <;> simp only at h <;> try cases h
  split at h
  · rename_i hlt
    cases h
    obtain ⟨a, vs0, _, _, ha, ev, _⟩ := own_at k e0
    refine ⟨_, ev, re A F H S σ _ S1 _ k e1 fun A1 F1 H1 v p1 s1 k1 r1 => ?_⟩
    obtain ⟨vs, ec, fa, hv', rr, hz⟩ := cell_at k1 e2 (prefix_at p1 ha)
    obtain ⟨b, us, rfl, g1, g2, g3⟩ := rp_list_inv r1
    refine ⟨a, b, vs, us, rfl, rfl, hv', k1.sub.same _ _ g1, by rw [rr.length, g2.length]; exact hlt, ?_⟩
    have k2 := (k1.cellSet ec (prefix_at p1 ha) trivial (o := .lst (vs ++ us)) (c' := .lst (cs ++ _)) ⟨_, upd_same, rr.append g2, by rw [List.length_append]; exact hlt⟩)
    exact post A1 F1 _ _ (s.trans s1) (p.trans p1) (k2.setOwn (prefix_at p1 ha))
  · cases h

/-! ### the script: walked, as a list -/
/-! ### enumerate(xs) -/
/-! ### a < b <= c < d -/
end
end Fu

set_option maxHeartbeats 4000000
namespace Fu
open PySem PySem.Spec PyProof.Rows L2 RZ
variable [TabsC]
section
variable {X : Cx} {P : Hp → Prop} {pos py p p2 p3 p4 apos : Pos} {x y : Str} {a b c d e e2 e3 o : Expr} {es : List Expr} {ga gb gc gd ge go g2 : M D} {gs : M (List D)} {k : Nat}
/-! ### xs[::c], c is 1 or -1 -/
/-! ### xs.index(x) -/
/-! ### max(a, b, c) -/
end
end Fu

set_option maxHeartbeats 4000000
namespace Fu
open PySem PySem.Spec PyProof.Rows L2 RZ
variable [TabsC]
/-! ### calls that look at lists of one's own: they stay one's own, the answer holds no list -/
mutual
def hardD : D → Bool
  | .none | .bool _ | .int _ | .str _ => true
  | .list _ | .dict _ => false
  | .tuple ds => hardDs ds
def hardDs : List D → Bool
  | [] => true
  | d :: ds => hardD d && hardDs ds
end
mutual
theorem Rp.hard {K : PySem.W.Frag} {F H : Hp} (ht : ∀ b xs, SqT K H b xs → SqT K F b xs) : ∀ (d : D) (v : V), hardD d = true → Rp K H v d → Rp K F v d
  | .none, _, _, h => by cases h; exact .non
  | .bool b, _, _, h => by cases h; exact .bl b
  | .int i, _, _, h => by cases h; exact .int i
  | .str x, _, _, h => by
    cases h with
    | str hz => exact .str hz
  | .list ds, _, c, _ => by simp [hardD] at c
  | .dict kvs, _, c, _ => by simp [hardD] at c
  | .tuple ds, _, c, h => by
    cases h with
    | tup hs ha hz => exact .tup (ht _ _ hs) (Rps.hard ht ds _ (by simpa [hardD] using c) ha) hz
theorem Rps.hard {K : PySem.W.Frag} {F H : Hp} (ht : ∀ b xs, SqT K H b xs → SqT K F b xs) : ∀ (ds : List D) (vs : List V), hardDs ds = true → Rps K H vs ds → Rps K F vs ds
  | [], _, _, h => by cases h; exact .nil
  | d :: ds, _, c, h => by
    have c' : hardD d = true ∧ hardDs ds = true := by simpa [hardDs] using c
    cases h with
    | cons h1 h2 => exact .cons (Rp.hard ht d _ c'.1 h1) (Rps.hard ht ds _ c'.2 h2)
end
section
variable {X : Cx} {pos py p p2 : Pos} {x y : Str} {e : Expr} {es : List Expr} {ge : M D} {gs : M (List D)} {k n : Nat} {ps : List Str}
/-- what was not there before is known for good -/
def newH (F H H' : Hp) : Hp := fun b => match H b with
  | none => H' b
  | some (.tbl _) => H' b
  | some _ => F b
theorem newH_new {F H H' : Hp} {b : Addr} (h : H b = none) : newH F H H' b = H' b := by unfold newH; rw [h]
theorem newH_old {F H H' : Hp} {b : Addr} {o : HO} (h : H b = some o) (n : NT o) : newH F H H' b = F b := by
  unfold newH
  rw [h]
  cases o <;> first | rfl | exact n.elim
theorem newH_tbl {F H H' : Hp} {b : Addr} {o : HO} (h : H b = some o) (n : ¬ NT o) : newH F H H' b = H' b := by
  unfold newH
  rw [h]
  cases o <;> first | rfl | exact (n trivial).elim
theorem newH_get {K : PySem.W.Frag} {A : List Addr} {F H H' : Hp} {S : Sx} {σ : L2.St} (k : Ok K A F H S σ) (s : SameT H H') {b : Addr} (o : HO) (q : H' b = some o) (nl : ¬ Loose o) : Fu.newH F H H' b = some o := by
  cases e : H b with
  | none => rw [newH_new e]; exact q
  | some u =>
    by_cases n : NT u
    · have := s.old b u e n
      rw [q] at this; cases this
      rw [newH_old e n]
      exact k.sub.keep e nl
    · rw [newH_tbl e n]; exact q
theorem Ok.newH {K : PySem.W.Frag} {A : List Addr} {F H H' : Hp} {S : Sx} {σ : L2.St} (k : Ok K A F H S σ) (s : SameT H H') : SameT F (newH F H H') ∧ Ok K A (newH F H H') H' S σ := by
  have sm : SameT F (Fu.newH F H H') := ⟨fun b o q n => by
    rw [newH_old (k.sub.same b o q) n]; exact q, fun t => fun p hp => by
    obtain ⟨ps, e, t1, t2⟩ := s.tab (k.tab.ext k.sub.same) p hp
    exact ⟨ps, newH_get k s _ e (fun z => z), t1, fun pos cv h => let ⟨c, e1, e2⟩ := t2 pos cv h; ⟨c, e1, newH_get k s _ e2 (fun z => z)⟩⟩, fun b o q => by
    by_cases n : NT o
    · rw [newH_old (k.sub.same b o q) n]; exact ⟨o, q⟩
    · rw [newH_tbl (k.sub.same b o q) n]; exact s.stay _ _ (k.sub.same b o q)⟩
  refine ⟨sm, k.grow ⟨fun b o q => ?_, fun b o q n => ?_⟩ sm (fun a ha o q => ?_) fun a ha q => ?_⟩
  · cases e : H b with
    | none => rw [newH_new e] at q; exact q
    | some u =>
      by_cases n : NT u
      · rw [newH_old e n] at q
        have := k.sub.same b o q
        rw [e] at this; cases this
        exact s.old b _ e n
      · rw [newH_tbl e n] at q; exact q
  · cases e : H b with
    | none => rw [newH_new e, q] at n; cases n
    | some u =>
      by_cases nn : NT u
      · rw [newH_old e nn] at n
        have := s.old b u e nn
        rw [q] at this; cases this
        exact k.sub.loose b o e n
      · rw [newH_tbl e nn, q] at n; cases n
  · obtain ⟨o', ho, l⟩ := k.trk a ha
    rw [q] at ho; cases ho
    exact s.old a o q l.nt
  · obtain ⟨o, ho, l⟩ := k.trk a ha
    rw [newH_old ho l.nt]; exact q
theorem sqT_newH {K : PySem.W.Frag} {A : List Addr} {F H H' : Hp} {S : Sx} {σ : L2.St} (k : Ok K A F H S σ) (s : SameT H H') {b : Addr} {xs : List V} (h : SqT K H' b xs) : SqT K (Fu.newH F H H') b xs := by
  have go := newH_get k s (b := b)
  rcases h with (h | ⟨o, h⟩) | h
  · exact .inl (.inl (go _ h (fun z => z)))
  · exact .inl (.inr ⟨o, go _ h (fun z => z)⟩)
  · exact .inr h
end
end Fu

set_option maxHeartbeats 4000000
namespace Fu
open PySem PySem.Spec PyProof.Rows L2 RZ
variable [TabsC]
/-! ### looks: an expression that writes nothing sees one's own lists as data; they stay one's own -/
def mapO {α β : Type} (f : α → Option β) : List α → Option (List β)
  | [] => some []
  | x :: xs => (f x).bind fun y => (mapO f xs).map fun ys => y :: ys
def snapR (os : List (Option Cell)) : Nat → R → Option D
  | 0, .dat d => some d
  | 0, _ => none
  | _ + 1, .dat d => some d
  | _ + 1, .scr _ => none
  | _ + 1, .exc _ => none
  | n + 1, .tup rs => (mapO (snapR os n) rs).map .tuple
  | n + 1, .own j => match os[j]? with
    | some (some (.lst ds)) => some (.list ds)
    | some (some (.lR rs)) => (mapO (snapR os n) rs).map .list
    | _ => none
def sealS (os : List (Option Cell)) : Option R → Option R
  | some (.scr ns) => some (.scr ns)
  | some (.exc c) => some (.exc c)
  | some r => (snapR os 8 r).map .dat
  | none => none
def sealAll (S : Sx) : Sx := ⟨S.sl.map (sealS S.os), S.os.map fun _ => none⟩
section
variable {K : PySem.W.Frag} {A : List Addr} {F H H' : Hp} {S : Sx} {σ : L2.St}
theorem mapO_len {α β : Type} {f : α → Option β} : ∀ {xs : List α} {ys : List β}, mapO f xs = some ys → ys.length = xs.length
  | [], _, h => by cases h; rfl
  | x :: xs, _, h => by
    obtain ⟨y, _, h⟩ := bind_inv h
    obtain ⟨ys, h1, rfl⟩ := Option.map_eq_some_iff.mp h
    rw [List.length_cons, List.length_cons, mapO_len h1]
theorem snaps_ok {n : Nat} {os : List (Option Cell)} {P : V → R → Prop} (h : ∀ r v d, snapR os n r = some d → P v r → Rp K H v d) : ∀ (rs : List R) (vs : List V) (ds : List D), mapO (snapR os n) rs = some ds → (∀ (i : Nat) r, rs[i]? = some r → ∃ v, vs[i]? = some v ∧ P v r) → vs.length = rs.length → Rps K H vs ds
  | [], vs, _, e, _, l => by
    cases e
    have : vs = [] := List.length_eq_zero_iff.mp l
    rw [this]; exact .nil
  | r :: rs, vs, _, e, g, l => by
    obtain ⟨d, e1, e⟩ := bind_inv e
    obtain ⟨ds, e2, rfl⟩ := Option.map_eq_some_iff.mp e
    cases vs with
    | nil => cases l
    | cons v vs =>
      obtain ⟨v', e3, p⟩ := g 0 r rfl
      cases e3
      exact .cons (h r v d e1 p) (snaps_ok h rs vs ds e2 (fun i r hr => by simpa using g (i + 1) r (by simpa using hr)) (by simpa using l))
theorem snap_ok (k : Ok K A F H S σ) : ∀ (n : Nat) (r : R) (v : V) (d : D), snapR S.os n r = some d → Rr K A F v r → Rp K H v d := by
  intro n
  induction n with
  | zero =>
    intro r v d e q
    cases q with
    | dat q => cases e; exact Rp.mono k.sub.same.t _ _ q
    | own _ => cases e
    | scr _ _ => cases e
    | tup _ _ _ => cases e
    | exc _ _ => cases e
  | succ n ih =>
    intro r v d e q
    cases q with
    | dat q => cases e; exact Rp.mono k.sub.same.t _ _ q
    | scr _ _ => cases e
    | exc _ _ => cases e
    | tup hs hr hz =>
      obtain ⟨ds, e1, rfl⟩ := Option.map_eq_some_iff.mp e
      exact .tup (sqT_same k.sub.same.t hs) (snaps_ok ih _ _ _ e1 (fun i r h => hr.get h) hr.length) (by rw [mapO_len e1]; exact hz)
    | @own j a ha =>
      unfold snapR at e
      split at e
      · rename_i ds ej
        cases e
        obtain ⟨a', e1, fa, vs, hv, r, hz⟩ := k.cell j _ ej
        rw [ha] at e1; cases e1
        exact .lst hv (Rps.mono k.sub.same.t _ _ r) hz
      · rename_i rs ej
        obtain ⟨ds, e2, rfl⟩ := Option.map_eq_some_iff.mp e
        obtain ⟨a', e1, fa, vs, hv, r, hz⟩ := k.cell j _ ej
        rw [ha] at e1; cases e1
        exact .lst hv (snaps_ok ih _ _ _ e2 (fun i r' h => r.get h) r.length) (by rw [mapO_len e2]; exact hz)
      · cases e
theorem Ok.view (k : Ok K A F H S σ) : Ok K A H H (sealAll S) σ where
  sub := Sub.refl H
  len := by rw [← k.len]; simp [sealAll]
  alen := by rw [← k.alen]; simp [sealAll]
  nd := k.nd
  rslot := fun i r h => by
    unfold sealAll at h
    simp only [List.getElem?_map, Option.map_eq_some_iff] at h
    obtain ⟨x, hx, h⟩ := h
    unfold sealS at h
    split at h
    · rename_i ns
      cases h
      obtain ⟨v, e, q⟩ := k.rslot i _ hx
      exact ⟨v, e, q.mono (List.prefix_refl _) k.sub.same.t _ _⟩
    · rename_i c'
      cases h
      obtain ⟨v, e, q⟩ := k.rslot i _ hx
      exact ⟨v, e, q.mono (List.prefix_refl _) k.sub.same.t _ _⟩
    · rename_i r' nr nr2
      obtain ⟨d, e1, rfl⟩ := Option.map_eq_some_iff.mp h
      obtain ⟨v, e, q⟩ := k.rslot i _ hx
      exact ⟨v, e, .dat (snap_ok k _ _ _ _ e1 q)⟩
    · cases h
  cell := fun j c h => by
    unfold sealAll at h
    simp only [List.getElem?_map, Option.map_eq_some_iff] at h
    obtain ⟨_, _, h⟩ := h
    cases h
  trk := k.trk
  tab := k.tab.ext k.sub.same
end
section
variable {X : Cx} {e : Expr} {g : M D} {gt : M Bool}
def gViewN (g : M D) : M D := fun S => (g (sealAll S)).bind fun q => match q.1 with
  | .list ds => if hardDs ds = true then some (.list ds, S) else none
  | _ => none
theorem n_view (h : GN X e g) : GN X e (gViewN g) := by
  obtain ⟨t, p, r⟩ := h.ex
  refine ⟨t, p, fun A F H S σ d S' Q k e post => ?_⟩
  obtain ⟨⟨d, S1⟩, e1, e⟩ := bind_inv e
  simp only at e
  split at e
  · rename_i ds
    split at e
    · rename_i hz
      cases e
      refine r A H H _ σ _ S1 Q k.view e1 fun A1 F1 G p vs ds' p1 s1 k1 hp ed r1 hl => ?_
      cases ed
      have sm : SameT H G := s1.trans k1.sub.same.t
      obtain ⟨s2, k2⟩ := k.newH sm
      exact post A _ G p vs _ (List.prefix_refl _) s2 k2 hp rfl (Rps.hard (fun b xs q => sqT_newH k sm (sqT_same k1.sub.same.t q)) _ _ hz r1) hl
    · cases e
  · cases e
end
end Fu

set_option maxHeartbeats 4000000
namespace L2
open PySem PySem.Spec PyProof.Rows
open Fu (XO)
/-! ### an exception that is looked at behind its suite: it is tracked from the suite's end on -/
section
variable {X : Cx} {pins : List (Addr × Obj)} {σ : St} {H : Hp} {s : Shared}
/-- an object that came to stand since the frame began, and that nobody tracks, is tracked -/
theorem adopt {a : Addr} {cls : Value} {o : Obj} {fs : Array Value} (I : Inv X pins σ H s) (na : H a = none) (ha : s.heap.get? a = some o) (hz : Zc cls none o) (hf : o.data = .fields fs) (h0 : X.s_0.heap.get? a = none) (nL : a ≠ X.env.locals)
    (hp : ∀ p ∈ X.pn ++ pins, p.1 ≠ a) : Inv X pins σ (upd H a (XO cls a)) s := by
  have ne : ∀ b u, H b = some u → b ≠ a := fun b u e z => by rw [z, na] at e; cases e
  have ne0 : ∀ b u, X.s_0.heap.get? b = some u → b ≠ a := fun b u e z => by rw [z, h0] at e; cases e
  have nc : ∀ x c, X.env.cells.lookup x = some c → c ≠ a := fun x c e z => by
    obtain ⟨v, o', ho', hd'⟩ := I.cell x c e
    rw [z, ha] at ho'; cases ho'
    rw [hf] at hd'; cases hd'
  refine ⟨I.ok, I.os, I.bare, ⟨I.base.keep, I.base.slot, fun b u e n hx => ?_, I.base.there, fun b xs e => ?_, fun b u xs e => ?_, fun b ps e => ?_⟩, I.loc, I.cell, ?_, fun x c e => ?_, fun p hm => ?_, fun b u e => ?_, I.len⟩
  · rw [upd_ne (ne0 b u e)]; exact I.base.free b u e n hx
  · have := I.base.tups b xs e
    rw [upd_ne (ne b _ this)]; exact this
  · have := I.base.frzs b u xs e
    rw [upd_ne (ne b _ this)]; exact this
  · obtain ⟨more, q⟩ := I.base.tbls b ps e
    exact ⟨more, by rw [upd_ne (ne b _ q)]; exact q⟩
  · rw [upd_ne (Ne.symm nL)]; exact I.free
  · rw [upd_ne (nc x c e)]; exact I.freeC x c e
  · obtain ⟨k1, k2, k3, k4, k5⟩ := I.pin p hm
    exact ⟨k1, by rw [upd_ne (hp p hm)]; exact k2, k3, k4, k5⟩
  · by_cases hb : b = a
    · subst hb
      rw [upd_same] at e
      cases e
      exact ⟨⟨o, fs, ha, hz, hf⟩, ⟨o, ha⟩, fun _ _ ⟨o', f', q, r⟩ k => ⟨o', f', k o' q, r⟩⟩
    · rw [upd_ne hb] at e
      exact (I.hok b u e).stay (fun _ _ _ q => q) (fun c q => by rw [upd_ne (ne c _ q)]; exact q) (fun c xs q => by rw [upd_ne (ne c _ q)]; exact q)
end
section
variable {X : Cx} {x n : Str} {c : Value} {i : Nat} {body suite : List Stmt} {b0 : Stmt} {np p1 p2 : Pos} {tb : WX → TS} {ts : Addr → Value → TS} {Wout : WX}
end
end L2

set_option maxHeartbeats 4000000
namespace L2
open PySem PySem.Spec PyProof.Rows
open Fu (Sub lpins forget remember lost_of mixH loose_there mix_held mix_free)
section
variable {X : Cx} {k : Nat} {f : Addr} {fd : FuncData} {ps : List Str} {sp : Sp} {W : WX} {x : Str} {p pos : Pos} {e : Expr} {es : List Expr} {t : TA}
end
end L2

set_option maxHeartbeats 4000000
namespace Fu
open PySem PySem.Spec PyProof.Rows L2 RZ
variable [TabsC]
/-! ### what may raise: mirrored with its refusals -/
def ClsD (K : PySem.W.Frag) (c : Str) (D : Addr) : Prop := PySem.W.nsIn K mainGlobals c = some (some (.ref D))
abbrev Zr (α : Type) := Except (Str × Sx) α
def ZErr (K : PySem.W.Frag) (W : WX) (A : List Addr) (F : Hp) (e : Str × Sx) : Prop := ∀ A' F' H' σ' D, A <+: A' → SameT F F' → Ok K A' F' H' e.2 σ' → ClsD K e.1 D → W (.ref D) none σ' H'
theorem ZErr.mono {K : PySem.W.Frag} {W : WX} {A A1 : List Addr} {F F1 : Hp} {e : Str × Sx} (p : A <+: A1) (s : SameT F F1) (h : ZErr K W A F e) : ZErr K W A1 F1 e := fun A' F' H' σ' D p' s' k c => h A' F' H' σ' D (p.trans p') (s.trans s') k c
section
variable {X : Cx} {W : WX} {pos p p2 : Pos} {x : Str} {e : Expr} {es : List Expr} {gs : M (List D)} {k n : Nat} {ps : List Str}
end
/-! ### statements that may raise -/
section
variable {X : Cx} {P : Hp → Prop} {W : WX} {st : Stmt} {sts : List Stmt} {g h : Sx → Option (Zr Out)} {e : Expr} {ge : Sx → Option (Zr (D × Sx))} {pos : Pos}
end
/-! ### a def that may raise -/
section
variable {P : Program} {w : World} {K : PySem.W.Frag} {mg : Str → Option Value} {base : Heap} {x qual : Str} {st : Stmt} {f : Addr} {fd : FuncData} {N ps : List Str} {k n : Nat} {g : Sx → Option (Zr Out)}
end
end Fu

set_option maxHeartbeats 4000000
namespace L2
open PySem PySem.Spec PyProof.Rows
open Fu (XO)
end L2
namespace Fu
open PySem PySem.Spec PyProof.Rows L2 RZ
variable [TabsC]
/-! ### an exception in a slot -/
/-- what an exception of the class c is, seen by cv -/
def ExcIs (K : PySem.W.Frag) (c : Str) (cv : Value) (b : Bool) : Prop := ∀ D, ClsD K c D → ExcC K D ∧ PySem.W.kitOne K (.ref D) cv = some b
section
variable {X : Cx} {pos p p2 p3 : Pos} {y x : Str} {k : Nat}
end
/-! ### a def of one exception -/
section
variable {P : Program} {w : World} {K : PySem.W.Frag} {mg : Str → Option Value} {base : Heap} {x qual : Str} {st : Stmt} {f : Addr} {fd : FuncData} {N ps : List Str} {k n : Nat} {g : Sx → Option Out}
end
section
variable {X : Cx} {pos p py : Pos} {x y : Str} {k : Nat} {ps : List Str}
end
/-! ### try: .. except C as n: y = n -/
section
variable {X : Cx} {P : Hp → Prop} {body : List Stmt} {g : Sx → Option (Zr Out)} {pos p p1 p2 p3 p4 p5 : Pos} {x n y : Str} {W : WX}
theorem Ok.clr {K : PySem.W.Frag} {A : List Addr} {F H : Hp} {S : Sx} {σ : L2.St} (k : Ok K A F H S σ) (i : Nat) : Ok K A F H ⟨S.sl.set i none, S.os⟩ (σ.set i none) := by
  refine ⟨k.sub, by rw [List.length_set, List.length_set]; exact k.len, k.alen, k.nd, fun j r e => ?_, k.cell, k.trk, k.tab⟩
  by_cases h : i = j
  · subst h
    rw [List.getElem?_set] at e
    split at e
    · split at e <;> cases e
    · exact absurd rfl ‹¬ _›
  · rw [List.getElem?_set_ne h] at e
    rw [List.getElem?_set_ne h]
    exact k.rslot j r e
end
end Fu

set_option maxHeartbeats 4000000
namespace Fu
open PySem PySem.Spec PyProof.Rows L2 RZ
variable [TabsC]
/-! ### the facts of the classes -/
def LookT (K : PySem.W.Frag) (mg : Str → Option Value) (x : Str) (cs : List Str) (b : Str → Bool) : Prop := ∃ D, mg x = some (.ref D) ∧ ∀ c ∈ cs, ExcIs K c (.ref D) (b c)
theorem cls_same {K : PySem.W.Frag} {c : Str} {f D : Addr} (a : PySem.W.nsIn K mainGlobals c = some (some (.ref f))) (d : ClsD K c D) : D = f := by
  unfold ClsD at d
  rw [a] at d
  cases d; rfl
theorem ExcIs.mk {K : PySem.W.Frag} {c : Str} {f : Addr} {cv : Value} {b b' : Bool} (a : PySem.W.nsIn K mainGlobals c = some (some (.ref f))) (e : ExcC K f) (k : PySem.W.kitOne K (.ref f) cv = some b') (h : b' = b) : ExcIs K c cv b := fun D d => by
  cases cls_same a d
  exact ⟨e, h ▸ k⟩
theorem sub_self {K : PySem.W.Frag} {C : Addr} {bm : List Value} {n : String} (x : PySem.W.excIn K C bm n = true) : PySem.W.subIn K (.ref C) (.ref C) = some true := by
  unfold PySem.W.excIn at x
  split at x
  · rename_i dict cd sl e
    split at x
    · rename_i C' bm' h1 h2 h3 n' h4 em _
      simp only [Bool.and_eq_true, beq_iff_eq] at x
      obtain ⟨⟨⟨⟨⟨rfl, _⟩, _⟩, _⟩, _⟩, _⟩ := x
      simp only [PySem.W.subIn, PySem.W.mroIn, PySem.W.clsIn, e, Option.bind_some, em]
      simp
    · cases x
  · cases x
section
variable {X : Cx} {pos p p2 p3 p1 p4 p5 : Pos} {y x n : Str} {P : Hp → Prop} {body : List Stmt} {g : Sx → Option (Zr Out)}
end
end Fu

set_option maxHeartbeats 4000000
namespace L2
open PySem PySem.Spec PyProof.Rows
open Fu (XO)
end L2
namespace Fu
open PySem PySem.Spec PyProof.Rows L2 RZ
variable [TabsC]
/-! ### looks by many classes at once -/
structure AnyT (X : Cx) (es : List Expr) (cs : List Str) (b : Str → Bool) : Prop where
  ex : ∃ (Cs : List Addr) (t : TA), PA X es t ∧ (∀ σ H Q, Q (Cs.map V.ref) H → t σ H Q) ∧ (∀ c ∈ cs, ∀ D, ClsD X.K c D → PySem.W.kitAny X.K (.ref D) (Cs.map Value.ref) = some (b c)) ∧ Cs.length = es.length
section
variable {X : Cx} {pos p p2 p3 p4 : Pos} {y x : Str} {es : List Expr} {cs : List Str} {b b2 : Str → Bool}
theorem any_nil : AnyT X [] cs (fun _ => false) := ⟨[], _, pa_nil, fun σ H Q q => q, (fun c _ D _ => kitAny_nil), rfl⟩
theorem any_cons (T : LookT X.K X.mg x cs b) (h : AnyT X es cs b2) (hgx : Gl X x := by rfl) (hdx : (x == ("__debug__" : Str)) = false := by decide) (he : starEach (.Name x p :: es) X.env = (false, eval (.Name x p) X.env) :: starEach es X.env := by rfl) :
    AnyT X (.Name x p :: es) cs (fun c => b c || b2 c) := by
  obtain ⟨C, hC, hk⟩ := T
  obtain ⟨Cs, t, pa, ht, ha, hn⟩ := h.ex
  refine ⟨C :: Cs, _, pa_cons (pe_glob (v := .ref C) hgx hC rfl hdx) pa he, fun σ H Q q => ht σ H _ q, fun c hc D cd => ?_, by rw [List.length_cons, List.length_cons, hn]⟩
  have k1 := (hk c hc D cd).2
  have k2 := ha c hc D cd
  refine kitAny_cons k1 (fun e1 => ?_) (fun e1 => by rw [e1]; rfl)
  rw [e1]; exact k2
end
/-! ### two new lists at once -/
section
variable {X : Cx} {P : Hp → Prop} {pos py : Pos} {x y : Str} {a b : Expr} {ga gb ge : M D}
end
/-! ### more of what may raise -/
section
variable {X : Cx} {W : WX} {pos p : Pos} {x : Str} {e : Expr} {es : List Expr} {id : String} {k : Nat}
end
end Fu

set_option maxHeartbeats 4000000
namespace L2
open PySem PySem.Spec PyProof.Rows
open Fu (dictO)
/-! ### {t: v}, t a tuple of ints and texts: a dict, what it holds is not told -/
end L2
namespace Fu
open PySem PySem.Spec PyProof.Rows L2 RZ
variable [TabsC]
section
variable {X : Cx} {pos : Pos} {e v : Expr} {ge gv : M D} {k : Nat}
end
end Fu

set_option maxHeartbeats 4000000
namespace Fu
open PySem PySem.Spec PyProof.Rows L2
variable [TabsC]
section
variable {X : Cx} {pos apos p p2 sp c0 c1 : Pos} {a e o : Expr} {ga ge go : M D} {k : Nat} {y z : Str} {i : Int} {j j0 j1 : Nat}
/-! ### line[2].replace("b", "a"): the index gives out a token -/
/-! ### letters.index(sign) of a text -/
end
end Fu

set_option maxHeartbeats 4000000
namespace PySem
open Sem (wp)
set_option maxHeartbeats 4000000 in
section
variable {prog : Program} {w : World} {A : Around} {E : Value → Shared → Prop} {s : Shared}
end
end PySem
namespace L2
open PySem PySem.Spec PyProof.Rows
end L2
namespace Fu
open PySem PySem.Spec PyProof.Rows L2
variable [TabsC]
section
variable {X : Cx} {p pos : Pos} {e : Expr} {gs : M (List D)}
end
end Fu

set_option maxHeartbeats 4000000
namespace Fu
open PySem PySem.Spec PyProof.Rows L2
variable [TabsC]
/-! ### set & set -/
section
variable {P : Program} {w : World} {A : Around} {E : Value → Shared → Prop} {s : Shared}
end
end Fu

set_option maxHeartbeats 4000000
namespace Fu
open PySem PySem.Spec PyProof.Rows L2
variable [TabsC]
section
variable {P : Program} {w : World} {A : Around} {E : Value → Shared → Prop} {s : Shared}
end
/-! ### tracked sets of whole numbers -/
section
variable {X : Cx} {pos p p1 p2 p3 p4 p5 p6 p7 : Pos} {e e2 : Expr} {ge ge2 : M D}
section
variable {k : Nat} (hr : Room k X.A) (m1 : X.mg "set" = none) (ha : GE X e ge) (hb : GE X e2 ge2)
include hr m1 ha hb in
include hr m1 ha hb in
end
end
end Fu

set_option maxHeartbeats 4000000
namespace Fu
open PySem PySem.Spec PyProof.Rows L2
variable [TabsC]
section
variable {X : Cx} {pos apos p p2 : Pos} {a e o : Expr} {es : List Expr} {ga ge go : M D} {gs : M (List D)}
/-! ### str(n), int(text) -/
/-! ### split, partition, join -/
end

/-! ### head, *rest = a list -/
section
variable {prog : Program} {w : World} {A : Around} {E : Value → Shared → Prop} {s : Shared}
end
section
variable {X : Cx} {pos p : Pos} {e : Expr} {es : List Expr} {tg ts : List Nat} {g : D → Sx → Option Sx} {gs : List D → Sx → Option Sx}
def sStar1 (gs : List D → Sx → Option Sx) : D → Sx → Option Sx := fun d S => match d with
  | .list (d :: ds) => gs [d, .list ds] S
  | _ => none
end
end Fu

set_option maxHeartbeats 4000000
/-! sorted(it, key=f) where the keys may hold lists, over any source -/
namespace SrtL
open PySem PySem.W PySem.Calls PyProof.Rows
variable {pg : Program} {wd : World} {A : Around} {E : Value → Shared → Prop} {s : Shared} {l kL : Addr} {rv : Bool} {us : List Value} {z1 : Nat} {Pf : PySem.Fin → Shared → Prop} {kds : List PyData}
/-- a turn: f(x) tells the key k; the lists that it reads stood in h1 -/
def Tells (J : Shared → Prop) (h1 : Heap) (k : PyData) (s1 : Shared) (u : Value) (s2 : Shared) : Prop :=
  J s2 ∧ (∀ b o, s1.heap.get? b = some o → s2.heap.get? b = some o) ∧ ∃ as, Reads s2.heap u k as ∧ ∀ x ∈ as, h1.get? x ≠ none
/-- the keys so far -/
def Here (h1 h : Heap) (u : Value) (d : PyData) : Prop := ∃ as, Reads h u d as ∧ alike d d = true ∧ ∀ x ∈ as, h1.get? x ≠ none
theorem Here.keeps {h1 h h' : Heap} {u : Value} {d : PyData} (k : ∀ b o, h.get? b = some o → h'.get? b = some o) (q : Here h1 h u d) : Here h1 h' u d := by
  obtain ⟨as, r, e, m⟩ := q
  exact ⟨as, PyProof.Rows.Reads.keeps k r, e, m⟩
theorem rest {f : Value} {h1 : Heap} (J : Shared → Prop) (hJ : ∀ t g n, J t → J { t with heap := g, toks := n }) (hj : J s)
    (kp : KeepsBut l h1 s.heap) (n1 : h1.get? kL = none) (n2 : s.heap.get? kL = some (seqObj "list" #[] 0)) (n3 : s.heap.get? l = some (seqObj "list" #[] z1)) (ne : kL ≠ l)
    (len : kds.length = us.length) (few : us.length ≤ sizeLine) (al : AllAlike kds) (so : Sortable kds) (un : ∀ d, d ∈ kds → A.units + d.depth < cLine)
    (turn : ∀ (i : Nat) (v : Value) (k : PyData), us[i]? = some v → kds[i]? = some k → ∀ t : Shared, J t → KeepsBut l h1 t.heap → wpAny (model pg wd) A (call f [v]) (Tells J h1 k t) (fun _ _ => False) t)
    (fin : ∀ (t : Shared) out c, J t → KeepsBut l h1 t.heap → t.heap.get? l = some (seqObj "list" (List.toArray out) c) → KeyedOut rv kds us out → Pf (.done (.ret .none)) t) :
    wpAny (model pg wd) A (ksk_rest l f rv us.toArray z1 (.ref kL)) Pf E s := by
  unfold ksk_rest
  refine wpAny_bind (wpAny_rule ?_)
  first | rw [List.forIn_toArray] | (rw [← Array.forIn_toList]; simp only [List.toList_toArray])
  let St : Nat → Shared → Prop := fun i t => ∃ (kA : Array Value) (n : Nat), J t ∧ KeepsBut l h1 t.heap ∧ t.heap.get? kL = some (seqObj "list" kA n) ∧ t.heap.get? l = some (seqObj "list" #[] z1) ∧ EachIs (Here h1 t.heap) kA.toList (kds.take i)
  have st0 : St 0 s := ⟨#[], 0, hj, kp, n2, n3, by rw [List.take_zero]; exact EachIs.nil⟩
  refine wpAny_bind (ksk_fold St us 0 s st0 ?go ?done)
  case go =>
    rintro j x t hx ⟨kA, n, hjt, kpt, m2, m3, hk⟩
    simp only [Nat.zero_add] at hk ⊢
    have hj' : j < us.length := (List.getElem?_eq_some_iff.mp hx).1
    obtain ⟨d, hd⟩ : ∃ d, kds[j]? = some d := ⟨_, List.getElem?_eq_getElem (by omega)⟩
    have dd : alike d d = true := al d (List.mem_of_getElem? hd) d (List.mem_of_getElem? hd)
    have small : kA.size ≤ us.length := by
      have e1 := hk.length
      simp only [Array.length_toList, List.length_take] at e1
      omega
    refine wpAny_bind (wpAny_attempt (wpAny_mono (turn j x d hx hd t hjt kpt) (fun v t2 he => ?_) fun _ _ no => no.elim))
    obtain ⟨j2, kp2, as, rd, old⟩ := he
    have p2 : t2.heap.get? kL = some (seqObj "list" kA n) := kp2 _ _ m2
    have p3 : t2.heap.get? l = some (seqObj "list" #[] z1) := kp2 _ _ m3
    have sb := Heap.SameBut.update t2.heap kL (Obj.mapSeq (·.push v))
    obtain ⟨n', hn'⟩ : ∃ n', (t2.heap.update kL (Obj.mapSeq (·.push v))).get? kL = some (seqObj "list" (kA.push v) n') := ⟨_, get?_update_seq p2 (·.push v)⟩
    refine wpAny_bind (listUpdate_at p2 rfl ?_ (Nat.le_trans small few) (by rw [Array.size_push]; exact Nat.succ_le_succ (Nat.le_trans small few)))
    have ok : ∀ (u : Value) (e : PyData), Here h1 t2.heap u e → Here h1 (t2.heap.update kL (Obj.mapSeq (·.push v))) u e := fun u e ⟨bs, r, q, m⟩ =>
      ⟨bs, Reads.keepBut (a := kL) (fun b o nb eb => (sb.2 b nb).trans eb) (fun o eb => by rw [p2] at eb; cases eb; rfl) e u bs q r (fun z => m kL z n1), q, m⟩
    have stepKp : KeepsBut l h1 (t2.heap.update kL (Obj.mapSeq (·.push v))) := (kpt.trans_all kp2).same sb (.inr n1)
    have each : EachIs (Here h1 (t2.heap.update kL (Obj.mapSeq (·.push v)))) (kA.push v).toList (kds.take (j + 1)) := by
      have e1 : kds.take (j + 1) = kds.take j ++ [d] := by rw [List.take_add_one, hd]; rfl
      rw [e1, Array.toList_push]
      exact each_snoc (ok v d ⟨as, rd, dd, old⟩) (hk.mono fun u e q => ok u e (q.keeps kp2))
    exact wpAny_pure ⟨rfl, kA.push v, n', hJ _ _ _ j2, stepKp, hn', (sb.2 l ne.symm).trans p3, each⟩
  case done =>
    rintro t ⟨kA, n, hjt, kpt, m2, m3, hk⟩
    have all : kds.take (0 + us.length) = kds := List.take_of_length_le (by omega)
    rw [all] at hk
    have hk2 : EachIs (fun v k => ∃ as, Reads t.heap v k as) kA.toList kds := hk.mono fun v k ⟨as, q, _⟩ => ⟨as, q⟩
    have sz : kA.size = us.length := by
      have e1 := hk2.length
      simp only [Array.length_toList] at e1
      omega
    refine wpAny_bind (listItems_at m2 rfl ?_)
    refine keyH_end (κ := dataKind t.heap kds) (h₁ := h1) kpt n1 m2 m3 ne (SortsAt.data (s := t) hk2 al so un) sz few fun h3 tk3 c k3 n4 => ?_
    exact fin _ _ c (hJ _ _ _ hjt) k3 n4 ⟨t.heap, kA.toList, al, rfl, hk2⟩
end SrtL

set_option maxHeartbeats 4000000
/-! a lambda of one parameter: (-len(ends), ends) -/
namespace SrtL
open PySem PySem.W PySem.Calls PyProof.Rows PySem.Spec
section
variable {pg : Program} {wd : World} {A : Around} {E : Value → Shared → Prop} {t : Shared} {mg mb : Str → Option Value}
end
end SrtL

set_option maxHeartbeats 4000000
/-! sorted(d.values(), key=lambda ends: (-len(ends), ends)) -/
namespace SrtL
open PySem PySem.Spec PyProof.Rows L2
section
variable {X : Cx} {pins : List (Addr × Obj)} {σ : L2.St} {H : Hp} {s : Shared}
end
section
variable [Fu.TabsC] {X : Cx} {pins : List (Addr × Obj)} {σ : L2.St} {H : Hp} {s : Shared}
end
section
variable [Fu.TabsC] {X : Cx}
end
end SrtL

set_option maxHeartbeats 4000000
/-! a dict of own lists: {}, d.setdefault(k, []).append(x), sorted(d.values(), key=..) -/
namespace Fu
open PySem PySem.Spec PyProof.Rows L2
variable [TabsC]
section
variable {K : PySem.W.Frag} {A : List Addr} {F : Hp}
end
section
variable {X : Cx} {P : Hp → Prop} {pos pd py pz pl ap1 ap2 cp1 cp2 : Pos} {ek : Expr} {gk : M D} {y z : Str}
/-! ### sorted(d.values(), key=lambda ends: (-len(ends), ends)) -/
def wiped (S : Sx) : Sx := ⟨S.sl.map fun _ => none, S.os.map fun _ => none⟩
theorem Ok.wiped {K : PySem.W.Frag} {A : List Addr} {F H H1 : Hp} {S : Sx} {σ : L2.St} (k : Ok K A F H S σ) (s : SameT H H1) : Ok K A H1 H1 (wiped S) σ where
  sub := Sub.refl H1
  len := by show (S.sl.map _).length = _; rw [List.length_map]; exact k.len
  alen := by show (S.os.map _).length = _; rw [List.length_map]; exact k.alen
  nd := k.nd
  rslot := fun i r h => by
    have h : (S.sl.map fun _ => (none : Option R))[i]? = some (some r) := h
    rw [List.getElem?_map] at h
    obtain ⟨_, _, e⟩ := Option.map_eq_some_iff.mp h
    cases e
  cell := fun i r h => by
    have h : (S.os.map fun _ => (none : Option Cell))[i]? = some (some r) := h
    rw [List.getElem?_map] at h
    obtain ⟨_, _, e⟩ := Option.map_eq_some_iff.mp h
    cases e
  trk := fun a h => by obtain ⟨o, q, l⟩ := k.trk a h; exact ⟨o, s.old _ _ q l.nt, l⟩
  tab := s.tab (k.tab.ext k.sub.same)
end

/-! ### a def whose code object is known -/
section
variable {P : Program} {w : World} {K : PySem.W.Frag} {mg : Str → Option Value} {base : Heap} {x : Str} {st : Stmt} {N ps : List Str} {k n : Nat} {g : Sx → Option Out}
end
end Fu

set_option maxHeartbeats 4000000
/-! the end of a law whose defs make lambdas -/
namespace Fu
open PySem PySem.Spec PyProof.Rows L2
section
variable [TabsC]
variable {P : Program} {w : World} {K : PySem.W.Frag} {mg : Str → Option Value} {base : Heap} {x qual : Str} {st : Stmt} {f : Addr} {fd : FuncData} {N ps : List Str} {k n : Nat} {g : Sx → Option Out}
end
section
variable [TabsC]
variable {P : Program} {w : World} {K : PySem.W.Frag} {mg : Str → Option Value} {base : Heap} {x qual : Str} {st : Stmt} {f : Addr} {fd : FuncData} {N ps : List Str} {k n : Nat} {g : Sx → Option Out}
end
/-- where no lambda is made -/
instance (priority := low) noTabs : TabsC := ⟨[], []⟩
end Fu

set_option maxHeartbeats 4000000
/-! sorted(set([ints])) -/
namespace SetL
open PySem PySem.Calls PyProof.Rows L2
section
variable {pg : Program} {wd : World} {A : Around} {E : Value → Shared → Prop} {s : Shared}
end
section
variable {pg : Program} {wd : World} {A : Around} {R : Result → Shared → Prop} {I : Addr} {fp wr : List Addr} {G : Array GenState → Array GenState → Prop} {n : Nat} {P : Nat → Value → Prop} {St : Nat → Shared → Prop}
/-- what has come of the first i -/
def Got (w : World) (h : Heap) (a : Addr) (val : Nat → Int) (i : Nat) : Prop := SetR w h a (fun k => (firstMet val i).any (· == k)) (firstMet val i).length
theorem loop (W : WalksS pg wd A.in1 I fp wr G n P St) (a : Addr) (out : a ∉ fp) (val : Nat → Int) (isI : ∀ i v, P i v → ∃ t, v = .int (val i) t) (room : n + 1 < scanBound) :
    ∀ (m i : Nat) (s : Shared), n - i = m → i ≤ n → St i s → Got wd s.heap a val i → (∀ t, Moved (a :: wr) G s t → Got wd t.heap a val n → R (.ok (.ret .none)) t) → codeAny (model pg wd) A (.builtin "set.update.loop" ⟨[.ref a, .ref I], []⟩) R s := by
  have nw : a ∉ wr := fun h => out (W.sub _ h)
  have up : ∀ b ∈ wr, b ∈ a :: wr := fun b hb => List.mem_cons_of_mem _ hb
  intro m
  induction m with
  | zero =>
    intro i s e1 e2 st got fin
    obtain rfl : i = n := by omega
    refine codeAny_builtin PyProof.Rows.F.entry_set_update_loop ?_
    rw [Around.under_plainId PyProof.Rows.F.plain_set_update_loop _]
    show wpAny _ A.in1 (pyNext (.ref I) >>= _) _ _ s
    refine wpAny_bind (W.done s _ _ st fun t mv => ?_)
    show wpAny _ A.in1 (ret Value.none) _ _ t
    exact wpAny_pure (fin t (mv.mono up) (SetR.at got fun o e => mv.heap a o nw e))
  | succ m ih =>
    intro i s e1 e2 st got fin
    have lt : i < n := by omega
    refine codeAny_builtin PyProof.Rows.F.entry_set_update_loop ?_
    rw [Around.under_plainId PyProof.Rows.F.plain_set_update_loop _]
    show wpAny _ A.in1 (pyNext (.ref I) >>= _) _ _ s
    refine wpAny_bind (W.item i s _ _ lt st fun v t hP st2 mv => ?_)
    obtain ⟨tk, rfl⟩ := isI i v hP
    have got2 : Got wd t.heap a val i := SetR.at got fun o e => mv.heap a o nw e
    show wpAny _ A.in1 (holding [Value.int (val i) tk] (setAdd a (.int (val i) tk)) >>= _) _ _ t
    refine wpAny_bind (wpAny_holding ?_)
    unfold setAdd
    refine wpAny_holding ?_
    refine wpAny_bind ((intKind pg wd).pyHash (k := val i) (intKind_is _ _ _ _) ?_)
    have few : (firstMet val i).length + 1 < scanBound := by have := firstMet_length_le val i; omega
    refine setR_add_hashed (P := pg) (s := { t with toks := t.toks + 1 }) got2 few fun g sb r => ?_
    have got3 : Got wd g a val (i + 1) := by
      unfold Got
      have e : (fun k => (firstMet val (i + 1)).any (· == k)) = fun j => (firstMet val i).any (· == j) || decide (j = val i) := by
        funext k
        rw [firstMet_succ, step_any]
      have e' : (firstMet val (i + 1)).length = if (firstMet val i).any (· == val i) = true then (firstMet val i).length else (firstMet val i).length + 1 := by rw [firstMet_succ, step_length]
      rw [e, e']
      exact r
    refine wpAny_pure ⟨plainId_quiet PyProof.Rows.F.plain_set_update_loop _, ih (i + 1) _ (by omega) lt (W.frame _ t _ _ st2 (Nat.le_succ _) fun b hb o e => ?_) got3 fun t2 mv2 got4 => ?_⟩
    · rw [sb.2 b (fun z : b = a => out (z ▸ hb))]; exact e
    · refine fin t2 (Moved.trans W.gtrans ((mv.mono up).then_heap (Nat.le_succ _) fun b o hb e => ?_) mv2) got4
      rw [sb.2 b (fun z : b = a => hb (z ▸ List.mem_cons_self))]; exact e
end
section
variable {pg : Program} {wd : World} {A : Around} {E : Value → Shared → Prop} {s : Shared}
end
end SetL

set_option maxHeartbeats 4000000
/-! set([ints]) with its members, sorted -/
namespace SetL
open PySem PySem.Spec PySem.Calls PyProof.Rows L2
section
variable {X : Cx}
theorem mem_got (ns : List Int) (k : Int) : (firstMet (fun i => ns.getD i 0) ns.length).any (· == k) = true ↔ k ∈ ns := by
  rw [firstMet_any]
  rw [List.any_eq_true]
  constructor
  · rintro ⟨x, hx, e⟩
    obtain ⟨i, hi, rfl⟩ := List.mem_map.mp hx
    have hl := List.mem_range.mp hi
    have := beq_iff_eq.mp e
    subst this
    show ns.getD i 0 ∈ ns
    rw [List.getD_eq_getElem?_getD, List.getElem?_eq_getElem hl]
    exact List.getElem_mem hl
  · intro h
    obtain ⟨i, hl, rfl⟩ := List.mem_iff_getElem.mp h
    refine ⟨ns[i], List.mem_map.mpr ⟨i, List.mem_range.mpr hl, ?_⟩, beq_self_eq_true _⟩
    show ns.getD i 0 = _
    rw [List.getD_eq_getElem?_getD, List.getElem?_eq_getElem hl]
    rfl
theorem mem_met (ns : List Int) (k : Int) : k ∈ firstMet (fun i => ns.getD i 0) ns.length ↔ k ∈ ns := by
  rw [← mem_got ns k, List.any_eq_true]
  exact ⟨fun h => ⟨k, h, beq_self_eq_true k⟩, fun ⟨x, h, e⟩ => by cases beq_iff_eq.mp e; exact h⟩
end
end SetL

set_option maxHeartbeats 4000000
/-! sorted(set(xs)), xs fewer than 64 ints -/
namespace Fu
open PySem PySem.Spec PySem.Calls PyProof.Rows L2 SetL
section
variable [TabsC] {X : Cx} {pos p p2 pos2 : Pos} {e : Expr} {gs : M (List D)}
end
end Fu

set_option maxHeartbeats 4000000
/-! sum(lists, []) -/
namespace SumL
open PySem PySem.Calls PyProof.Rows L2
theorem args_sum2 (a b : Value) : argsOk "sum" ⟨[a, b], []⟩ := by unfold argsOk; kernel_rfl
def L1 (h : Heap) (a : Addr) (its : Array Value) : Prop := ∃ n, h.get? a = some { cls := .type "list", data := .seq its n }
theorem L1.at {h g : Heap} {a : Addr} {its : Array Value} (k : L1 h a its) (f : ∀ o, h.get? a = some o → g.get? a = some o) : L1 g a its := k.elim fun n e => ⟨n, f _ e⟩
/-- the first i lists, one behind the other -/
def pre (cs : Nat → Array Value) : Nat → Array Value
  | 0 => #[]
  | i + 1 => pre cs i ++ cs i
section
variable {pg : Program} {wd : World} {A : Around} {R : Result → Shared → Prop} {I : Addr} {fp wr : List Addr} {G : Array GenState → Array GenState → Prop} {n : Nat} {P : Nat → Value → Prop} {St : Nat → Shared → Prop}
theorem loop (W : WalksS pg wd A.in1 I fp wr G n P St) (h₀ : Heap) (cs : Nat → Array Value) (ad : Nat → Addr) (isR : ∀ (i : Nat) (v : Value), P i v → v = Value.ref (ad i)) (hcs : ∀ i, i < n → L1 h₀ (ad i) (cs i)) (room : ∀ i, i < n → (pre cs i).size + (cs i).size ≤ sizeLine)
    (S : Addr) (hSf : S ∉ fp) (hSz : h₀.objs.size ≤ S) (hw0 : ∀ b ∈ wr, h₀.objs.size ≤ b ∧ b < S) (T0 : Addr) (hT0 : L1 h₀ T0 #[]) :
    ∀ (k i : Nat) (s : Shared) (T : Addr) (c : Nat), n - i = k → i ≤ n → St i s → s.heap.get? S = some { cls := .type "list", dict := none, data := .seq #[.ref T] c, slots := #[] } →
    (∀ b o, h₀.get? b = some o → s.heap.get? b = some o) → L1 s.heap T (pre cs i) → T ∉ S :: wr → (i = 0 → T = T0) → (0 < i → h₀.objs.size ≤ T) →
    (∀ s' T', Moved (S :: wr) G s s' → (∀ b o, h₀.get? b = some o → s'.heap.get? b = some o) → L1 s'.heap T' (pre cs n) → (n = 0 → T' = T0) → (0 < n → h₀.objs.size ≤ T') → R (.ok (.ret (.ref T'))) s') →
    codeAny (model pg wd) A (.builtin "sum.loop" ⟨[.ref I, .ref S, rawInt 2, rawInt 0], []⟩) R s := by
  have hSw : S ∉ wr := fun h => hSf (W.sub _ h)
  have hsub : ∀ b ∈ wr, b ∈ S :: wr := fun b hb => List.mem_cons_of_mem _ hb
  have old : ∀ b o, h₀.get? b = some o → b ∉ S :: wr := fun b o e hb => by
    have hlt := Heap.lt_size e
    rcases List.mem_cons.mp hb with rfl | hb
    · exact Nat.not_lt_of_le hSz hlt
    · exact Nat.not_lt_of_le (hw0 b hb).1 hlt
  intro k
  induction k with
  | zero =>
    intro i s T c hk hi hst hS kp hT hTn t0 t1 hR
    have hin : i = n := by omega
    subst hin
    refine codeAny_builtin PySem.F.entry_sum_loop ?_
    rw [Around.under_plainId PySem.F.plain_sum_loop _]
    show wpAny _ A.in1 (seqItems? (.ref S) >>= _) _ _ s
    refine wpAny_bind (wpAny_seqItems hS rfl ?_)
    show wpAny _ A.in1 (tryCatch (pyNext (.ref I)) _ >>= _) _ _ s
    refine wpAny_bind (wpAny_tryCatch (W.done s _ _ hst fun s' hm => ?_))
    exact wpAny_pure (hR s' T (hm.mono hsub) (fun b o e => hm.heap b o (fun z => old b o e (hsub b z)) (kp b o e)) (hT.at fun o e => hm.heap T o (fun z => hTn (hsub _ z)) e) t0 t1)
  | succ k ih =>
    intro i s T c hk hi hst hS kp hT hTn t0 t1 hR
    have hlt : i < n := by omega
    refine codeAny_builtin PySem.F.entry_sum_loop ?_
    rw [Around.under_plainId PySem.F.plain_sum_loop _]
    show wpAny _ A.in1 (seqItems? (.ref S) >>= _) _ _ s
    refine wpAny_bind (wpAny_seqItems hS rfl ?_)
    show wpAny _ A.in1 (tryCatch (pyNext (.ref I)) _ >>= _) _ _ s
    refine wpAny_bind (wpAny_tryCatch (W.item i s _ _ hlt hst fun v s' hP hst' hm => ?_))
    obtain rfl := isR i v hP
    have hS' := hm.heap S _ hSw hS
    have kp' : ∀ b o, h₀.get? b = some o → s'.heap.get? b = some o := fun b o e => hm.heap b o (fun z => old b o e (hsub b z)) (kp b o e)
    obtain ⟨n1, hT'⟩ := hT.at fun o e => hm.heap T o (fun z => hTn (hsub _ z)) e
    obtain ⟨n2, hI'⟩ := (hcs i hlt).at fun o e => kp' _ o e
    show wpAny _ A.in1 ((holding [Value.ref (ad i)] (binaryOp .Add (.ref T) (.ref (ad i)))).attempt >>= _) _ _ _
    refine wpAny_bind (wpAny_attempt (wpAny_holding (PySem.P.add_list hT' hI' ?_ (room i hlt))))
    show wpAny _ A.in1 (updateSeq S (fun _ => #[.ref s'.heap.objs.size]) >>= _) _ _ _
    have hSl : S < s'.heap.objs.size := Heap.lt_size hS'
    have hS1 : (s'.heap.push { cls := .type "list", data := .seq (pre cs i ++ cs i) }).get? S = _ := Heap.get?_push_of_some _ hS'
    refine wpAny_bind (wpAny_updateSeq hS1 rfl ?_)
    have hS₂ := Heap.get?_update_self (Obj.mapSeq fun _ => #[Value.ref s'.heap.objs.size]) hS1 rfl
    refine wpAny_bind (wpAny_letGo ?_)
    have up : ∀ b o, b ≠ S → s'.heap.get? b = some o → (((s'.heap.push { cls := .type "list", data := .seq (pre cs i ++ cs i) }).update S (Obj.mapSeq fun _ => #[Value.ref s'.heap.objs.size])).update S (Obj.mapSeq fun _ => #[Value.ref s'.heap.objs.size])).get? b = some o := fun b o hb e =>
      (Heap.get?_update_other _ _ (fun h : S = b => hb h.symm)).trans ((Heap.get?_update_other _ _ (fun h : S = b => hb h.symm)).trans (Heap.get?_push_of_some _ e))
    have hnew : (((s'.heap.push { cls := .type "list", data := .seq (pre cs i ++ cs i) }).update S (Obj.mapSeq fun _ => #[Value.ref s'.heap.objs.size])).update S (Obj.mapSeq fun _ => #[Value.ref s'.heap.objs.size])).get? s'.heap.objs.size = some { cls := .type "list", data := .seq (pre cs i ++ cs i) } :=
      (Heap.get?_update_other _ _ (fun h : S = _ => Nat.ne_of_lt hSl h)).trans ((Heap.get?_update_other _ _ (fun h : S = _ => Nat.ne_of_lt hSl h)).trans (Heap.get?_push_size _ rfl))
    refine wpAny_bind (wpAny_updateSeq hS₂ rfl (wpAny_pure ⟨plainId_quiet PySem.F.plain_sum_loop _, ih (i + 1) _ s'.heap.objs.size _ (by omega) hlt (W.frame _ s' _ _ hst' (Nat.le_refl _) fun b hb o e => up b o (fun z => hSf (z ▸ hb)) e) (Heap.get?_update_self _ hS₂ rfl) (fun b o e => up b o (fun z => old b o e (z ▸ List.mem_cons_self)) (kp' b o e)) ⟨_, hnew⟩ (fun z => ?_) (fun z => absurd z (Nat.succ_ne_zero _)) (fun _ => Nat.le_of_lt (Nat.lt_of_le_of_lt hSz hSl)) fun s'' T'' hm'' k'' l'' z0 z1 => ?_⟩))
    · rcases List.mem_cons.mp z with z | z
      · exact Nat.ne_of_gt hSl z
      · exact Nat.lt_irrefl _ (Nat.lt_trans hSl (hw0 _ z).2)
    · refine hR s'' T'' (Moved.trans W.gtrans ((hm.mono hsub).then_heap (Nat.le_refl _) fun b o hb e => ?_) hm'') k'' l'' z0 z1
      exact up b o (fun z => hb (z ▸ List.mem_cons_self)) e
end
section
variable {pg : Program} {wd : World} {A : Around} {E : Value → Shared → Prop} {s : Shared}
/-- sum(lists, []) -/
theorem sum2 {l e : Addr} {its : Array Value} {Q : Value → Shared → Prop} (hd : A.handled = none) (hl : s.heap.IsList l its) (cs : Nat → Array Value) (ad : Nat → Addr) (isR : ∀ (i : Nat) (v : Value), its[i]? = some v → v = Value.ref (ad i)) (hcs : ∀ i, i < its.size → L1 s.heap (ad i) (cs i)) (room : ∀ i, i < its.size → (pre cs i).size + (cs i).size ≤ sizeLine) (he : L1 s.heap e #[])
    (q : ∀ (g : Heap) (tk : Nat) (T : Addr), (∀ b o, s.heap.get? b = some o → g.get? b = some o) → L1 g T (pre cs its.size) → (its.size = 0 → T = e) → (0 < its.size → s.heap.objs.size ≤ T) → Q (.ref T) { s with heap := g, toks := tk }) :
    wpAny (model pg wd) A (call (.builtin "sum") [.ref l, .ref e]) Q E s := by
  have ls : l < s.heap.objs.size := by obtain ⟨_, e, _⟩ := hl; exact Heap.lt_size e
  refine call_function_tree PySem.F.kind_sum PySem.F.plain_sum PySem.F.entry_sum (args_sum2 _ _) ?_
  unfold Builtin.«sum»
  simp only [List.length_cons, List.length_nil]
  rw [if_neg (by decide)]
  refine wpAny_bind (wpAny_of_eq (show Builtin.Builtins.bindParams "sum" ["start"] 0 ⟨[.ref e], []⟩ = pure [some (.ref e)] from rfl) ?_)
  refine wpAny_bind (wpAny_pyIter_list hl ?_)
  have neI : l ≠ s.heap.objs.size := Nat.ne_of_lt ls
  have W := (Walks.list (prog := pg) (w := wd) (A := A.in1) (by simp [hd]) s.heap.objs.size l neI its).toS
  obtain ⟨ne, hen⟩ := he
  refine wpAny_bind (wpAny_pure ?_)
  simp only [List.forIn_cons, List.forIn_nil]
  have hen1 : (s.heap.push { cls := .type "list_iterator", data := .fields #[.ref l, .int 0 0] }).get? e = _ := Heap.get?_push_of_some _ hen
  have hty : Shared.TypeIs { s with heap := s.heap.push { cls := .type "list_iterator", data := .fields #[.ref l, .int 0 0] } } (.ref e) "list" := ⟨_, hen1, rfl⟩
  refine wpAny_bind (wpAny_bind (wpAny_bind (wpAny_isInstance (T := "list") (b := false) hty PySem.F.sub_list_str ?_)))
  simp only [Bool.false_eq_true, if_false]
  refine wpAny_pure (wpAny_bind (wpAny_bind (wpAny_isInstance (T := "list") (b := false) hty PySem.F.sub_list_bytes ?_)))
  simp only [Bool.false_eq_true, if_false]
  refine wpAny_pure (wpAny_bind (wpAny_bind (wpAny_isInstance (T := "list") (b := false) hty PySem.F.sub_list_bytearray ?_)))
  simp only [Bool.false_eq_true, if_false]
  refine wpAny_pure (wpAny_pure ?_)
  refine wpAny_bind (wpAny_newObj_type ?_)
  have hz : (s.heap.push { cls := .type "list_iterator", data := .fields #[.ref l, .int 0 0] }).objs.size = s.heap.objs.size + 1 := Heap.size_push _ _
  refine wpAny_pure ⟨plainId_quiet PySem.F.plain_sum_loop _, loop W s.heap cs ad isR hcs room (s.heap.push { cls := .type "list_iterator", data := .fields #[.ref l, .int 0 0] }).objs.size ?_ (by omega) ?_ e ⟨ne, hen⟩ (its.size - 0) 0 _ e _ (by omega) (Nat.zero_le _)
    (W.frame 0 _ _ _ ⟨⟨_, Heap.get?_push_size _ rfl, rfl, rfl⟩, hl.push _⟩ (Nat.le_refl _) fun b _ o k => Heap.get?_push_of_some _ k) (Heap.get?_push_size _ rfl) (fun b o k => Heap.get?_push_of_some _ (Heap.get?_push_of_some _ k)) ⟨ne, Heap.get?_push_of_some _ hen1⟩ ?_ (fun _ => rfl) (fun z => absurd z (Nat.lt_irrefl _)) fun t T mv kp lt z0 z1 => ?_⟩
  · rw [hz]
    intro z
    rcases List.mem_cons.mp z with z | z
    · exact Nat.succ_ne_self _ z
    · have z := List.mem_singleton.mp z
      rw [← z] at ls
      exact Nat.not_succ_lt_self ls
  · intro b hb
    rw [List.mem_singleton.mp hb, hz]
    exact ⟨Nat.le_refl _, Nat.lt_succ_self _⟩
  · rw [hz]
    intro z
    have hl2 := Heap.lt_size hen
    rcases List.mem_cons.mp z with z | z
    · rw [z] at hl2
      exact Nat.not_succ_lt_self hl2
    · rw [List.mem_singleton.mp z] at hl2
      exact Nat.lt_irrefl _ hl2
  · obtain ⟨g, g', d', tk', os'⟩ := t
    have eg : g' = s.gens := mv.gens
    have ed : d' = s.drawn := mv.drawn
    have eo : os' = s.os := mv.os
    subst eg; subst ed; subst eo
    exact q g tk' T kp lt z0 z1
end
end SumL

set_option maxHeartbeats 4000000
/-! sum(lists, []): the layer's rule -/
namespace Fu
open PySem PySem.Spec PySem.Calls PyProof.Rows L2 SumL
def flatP (ps : List (Addr × List V)) : List V := ps.flatMap (·.2)
def rSumL (K : PySem.W.Frag) : List V → Hp → VK → Prop := fun vs H Q => ∃ (a e : Addr) (ps : List (Addr × List V)), vs = [.ref a, .ref e] ∧ H a = some (.lst (ps.map fun q => .ref q.1)) ∧ (∀ q ∈ ps, H q.1 = some (.lst q.2)) ∧ H e = some (.lst []) ∧ (flatP ps).length ≤ sizeLine ∧
  (ps = [] → Q (.ref e) H) ∧ (ps ≠ [] → ∀ p, H p = none → Q (.ref p) (upd H p (.lst (flatP ps))))
theorem vals_refs : ∀ {ps : List (Addr × List V)} {its : List Value}, Vals (ps.map fun q => V.ref q.1) its → its = ps.map fun q => Value.ref q.1
  | [], _, r => by cases r; rfl
  | p :: ps, _, r => by
    rw [List.map_cons] at r
    cases r with
    | cons r1 r2 =>
      cases r1
      rw [vals_refs r2]
      rfl
theorem vals_app {xs ys : List V} {us ws : List Value} (h : Vals xs us) (k : Vals ys ws) : Vals (xs ++ ys) (us ++ ws) := h.append k
section
variable {X : Cx}
theorem cr_sumL (hc : X.calm = true) : CallR X (.builtin "sum") (rSumL X.K) := by
  intro pins s σ H vs us Q I r h
  obtain ⟨a, e, ps, rfl, hs, hl, he, hz, q0, q1⟩ := h
  obtain ⟨u1, us1, rfl, r1, r2⟩ : ∃ u1 us1, us = u1 :: us1 ∧ RelV (.ref a) u1 ∧ Vals [.ref e] us1 := by
    cases r with
    | cons r1 r2 => exact ⟨_, _, rfl, r1, r2⟩
  cases r1
  rw [Vals.ref1 r2]
  obtain ⟨_, its, n, ri, hal⟩ := (Rd.of hs).ok I.hok
  have hits := vals_refs ri
  subst hits
  obtain ⟨_, eits, en, re, hel⟩ := (Rd.of he).ok I.hok
  cases re
  have key : ∀ i : Nat, ∃ us : List Value, (i < ps.length → L1 s.heap (ps.getD i (0, [])).1 us.toArray ∧ Vals (ps.getD i (0, [])).2 us) := by
    intro i
    by_cases hi : i < ps.length
    · have hm : ps.getD i (0, []) ∈ ps := by
        rw [List.getD_eq_getElem?_getD, List.getElem?_eq_getElem hi]
        exact List.getElem_mem hi
      obtain ⟨_, us, n, ru, hul⟩ := (Rd.of (hl _ hm)).ok I.hok
      exact ⟨us, fun _ => ⟨⟨n, hul⟩, ru⟩⟩
    · exact ⟨[], fun z => absurd z hi⟩
  let cs : Nat → List Value := fun i => Classical.choose (key i)
  have hcs : ∀ i, i < ps.length → L1 s.heap (ps.getD i (0, [])).1 (cs i).toArray ∧ Vals (ps.getD i (0, [])).2 (cs i) := fun i => Classical.choose_spec (key i)
  have hpre : ∀ i, i ≤ ps.length → Vals (flatP (ps.take i)) (pre (fun i => (cs i).toArray) i).toList := by
    intro i
    induction i with
    | zero => intro _; exact .nil
    | succ i ih =>
      intro hi
      have e1 : ps.take (i + 1) = ps.take i ++ [ps.getD i (0, [])] := by
        rw [List.take_add_one, List.getD_eq_getElem?_getD, List.getElem?_eq_getElem (show i < ps.length by omega)]
        rfl
      rw [e1]
      unfold flatP
      rw [List.flatMap_append]
      have h1 := ih (by omega)
      have h2 := (hcs i (by omega)).2
      have e2 : (pre (fun i => (cs i).toArray) (i + 1)).toList = (pre (fun i => (cs i).toArray) i).toList ++ cs i := by
        show (pre (fun i => (cs i).toArray) i ++ (cs i).toArray).toList = _
        simp
      rw [e2]
      refine vals_app h1 ?_
      simp only [List.flatMap_cons, List.flatMap_nil, List.append_nil]
      exact h2
  have hlen : ∀ i, i ≤ ps.length → (pre (fun i => (cs i).toArray) i).size ≤ sizeLine := by
    intro i hi
    have h1 : (pre (fun i => (cs i).toArray) i).size = (flatP (ps.take i)).length := by
      rw [← Array.length_toList]
      first | exact (hpre i hi).length | exact (hpre i hi).length.symm
    rw [h1]
    refine Nat.le_trans ?_ hz
    have e3 : flatP ps = flatP (ps.take i) ++ flatP (ps.drop i) := by
      unfold flatP
      rw [← List.flatMap_append, List.take_append_drop]
    rw [e3, List.length_append]
    exact Nat.le_add_right _ _
  have hsz : (ps.map fun q => Value.ref q.1).toArray.size = ps.length := by simp
  refine sum2 (I.ok.hd hc) ⟨_, hal, rfl, n, rfl⟩ (fun i => (cs i).toArray) (fun i => (ps.getD i (0, [])).1) (fun i v hv => ?_) (fun i hi => (hcs i (by rw [hsz] at hi; exact hi)).1) (fun i hi => ?_) ⟨en, hel⟩ fun g tk T kp lt z0 z1 => ?_
  · have hv : (ps.map fun q => Value.ref q.1)[i]? = some v := by rw [← hv]; simp
    rw [List.getElem?_map] at hv
    obtain ⟨q, hq, rfl⟩ := Option.map_eq_some_iff.mp hv
    rw [List.getD_eq_getElem?_getD, hq]
    rfl
  · have := hlen (i + 1) (by rw [hsz] at hi; exact hi)
    have e4 : (pre (fun i => (cs i).toArray) (i + 1)).size = (pre (fun i => (cs i).toArray) i).size + (cs i).toArray.size := by
      show (pre (fun i => (cs i).toArray) i ++ (cs i).toArray).size = _
      rw [Array.size_append]
    omega
  · rw [hsz] at lt z0 z1
    rcases Nat.eq_zero_or_pos ps.length with z | z
    · have hps := List.length_eq_zero_iff.mp z
      rw [z0 z]
      exact ⟨.ref _, H, I.kept kp, rfl, q0 hps⟩
    · obtain ⟨m, hT⟩ := lt
      have hv := hpre ps.length (Nat.le_refl _)
      rw [List.take_length] at hv
      refine ⟨.ref T, upd H T (.lst (flatP ps)), I.laid (t' := tk) kp (z1 z) ⟨hz, _, m, hv, hT⟩, rfl, q1 (List.length_pos_iff.mp z) T (I.hok.fresh (z1 z))⟩
end
/-! the data -/
def allLists : List D → Option (List (List D))
  | [] => some []
  | .list b :: ds => (allLists ds).bind fun bs => some (b :: bs)
  | _ => none
theorem allLists_map : ∀ {ds : List D} {bs : List (List D)}, allLists ds = some bs → ds = bs.map .list
  | [], _, h => by cases h; rfl
  | .list b :: ds, _, h => by
    obtain ⟨bs, h1, h2⟩ := bind_inv h
    cases h2
    rw [List.map_cons, allLists_map h1]
  | .none :: _, _, h => by simp [allLists] at h
  | .bool _ :: _, _, h => by simp [allLists] at h
  | .str _ :: _, _, h => by simp [allLists] at h
  | .int _ :: _, _, h => by simp [allLists] at h
  | .tuple _ :: _, _, h => by simp [allLists] at h
  | .dict _ :: _, _, h => by simp [allLists] at h
theorem allLists_of : ∀ bs : List (List D), allLists (bs.map .list) = some bs
  | [] => rfl
  | b :: bs => by
    show (allLists (bs.map .list)).bind _ = _
    rw [allLists_of bs]; rfl
def dSumL : List D → Option D
  | [.list xs, .list []] => (allLists xs).bind fun ls => if ls.flatten.length ≤ sizeLine then some (.list ls.flatten) else none
  | _ => none
theorem rps_lists [TabsC] {K : PySem.W.Frag} {F : Hp} : ∀ {bs : List (List D)} {vs : List V}, Rps K F vs (bs.map .list) → ∃ ps : List (Addr × List V), vs = ps.map (fun q => .ref q.1) ∧ (∀ q ∈ ps, F q.1 = some (.lst q.2)) ∧ Rps K F (flatP ps) bs.flatten ∧ ps.length = bs.length
  | [], _, h => by cases h; exact ⟨[], rfl, (fun _ h => nomatch h), .nil, rfl⟩
  | b :: bs, _, h => by
    cases h with
    | cons h1 h2 =>
      obtain ⟨ps, rfl, g1, g2, g3⟩ := rps_lists h2
      obtain ⟨a, xs, rfl, k1, k2, k3⟩ := rp_list_inv h1
      refine ⟨(a, xs) :: ps, rfl, fun q hq => ?_, k2.append g2, by simp [g3]⟩
      rcases List.mem_cons.mp hq with rfl | hq
      · exact k1
      · exact g1 q hq
section
variable [TabsC]
theorem rd_sumL {K : PySem.W.Frag} : RdC K (rSumL K) dSumL := by
  intro A F H S σ xs ds z Q k r h post
  unfold dSumL at h
  split at h
  · obtain ⟨ls, h1, h2⟩ := bind_inv h
    split at h2
    case isFalse => cases h2
    rename_i hz
    cases h2
    cases allLists_map h1
    obtain ⟨v, u, rfl, rv, ru⟩ := rps2 r
    obtain ⟨a, vs, rfl, g1, g2, g3⟩ := rp_list_inv rv
    obtain ⟨e, es, rfl, e1, e2, e3⟩ := rp_list_inv ru
    cases e2
    obtain ⟨ps, rfl, p1, p2, p3⟩ := rps_lists g2
    refine ⟨a, e, ps, rfl, k.sub.same _ _ g1, fun q hq => k.sub.same _ _ (p1 q hq), k.sub.same _ _ e1, by rw [p2.length]; exact hz, fun hn => ?_, fun hn p hp => ?_⟩
    · subst hn
      have : ls = [] := List.length_eq_zero_iff.mp p3.symm
      subst this
      exact post F H _ (SameT.refl F) k ru
    · obtain ⟨s1, k1, r1⟩ := k.newList hp p2 hz
      exact post _ _ _ s1 k1 r1
  · cases h
variable {X : Cx} {pos p p2 : Pos} {e : Expr} {es : List Expr} {gs : M (List D)}
theorem e_sumL {e2 : Expr} (hm : X.mg "sum" = none) (ha : GA X [e, e2] gs) (hc : X.calm = true := by rfl) (hg : Gl X "sum" := by rfl) (he : starEach [e, e2] X.env = (false, eval e X.env) :: starEach [e2] X.env := by rfl) (hpl : (backTo pos (starEach [e2] X.env)).any (·.1) = false := by rfl) : GE X (.Call (.Name "sum" p) [e, e2] [] pos) (gCall dSumL gs) :=
  e_callB (cr_sumL hc) rd_sumL hm (by decide +kernel) ha hg (he := he) (hpl := hpl)
end
end Fu

set_option maxHeartbeats 4000000
namespace Fu
open PySem
variable [TabsC]

/-! ### data: shaped, equal -/
theorem shaped_iff {d : D} : SeqAt.shaped d = true ↔ d.canLay0 = true ∧ d.depth ≤ 64 := by
  unfold SeqAt.shaped
  rw [Bool.and_eq_true, decide_eq_true_eq]
@[simp] theorem shaped_int (i : Int) : SeqAt.shaped (.int i) = true := by simp [shaped_iff, PyData.canLay0, PyData.depth]
@[simp] theorem shaped_bool (b : Bool) : SeqAt.shaped (.bool b) = true := by simp [shaped_iff, PyData.canLay0, PyData.depth]
@[simp] theorem shaped_none : SeqAt.shaped .none = true := by simp [shaped_iff, PyData.canLay0, PyData.depth]
@[simp] theorem dEq_int (a b : Int) : dEq (.int a) (.int b) = some (.bool (decide (a = b))) := by
  simp [dEq, PyData.eqv, Bool.beq_eq_decide_eq]
@[simp] theorem dNe_int (a b : Int) : dNe (.int a) (.int b) = some (.bool (!decide (a = b))) := by
  simp [dNe, PyData.eqv, Bool.beq_eq_decide_eq]
theorem dNe_self {d : D} (h : SeqAt.shaped d = true) : dNe d d = some (.bool false) := by
  unfold dNe
  rw [if_pos ⟨h, h⟩, SeqAt.eqv_refl _ (shaped_iff.mp h).1]; rfl
/-- lists (tuples) of things of one shape, their depth at most n -/
def Fine (n : Nat) (d : D) : Prop := d.canLay0 = true ∧ d.depth ≤ n
theorem Fine.mono {m n : Nat} {d : D} (h : Fine m d) (l : m ≤ n) : Fine n d := ⟨h.1, Nat.le_trans h.2 l⟩
theorem Fine.shaped {n : Nat} {d : D} (h : Fine n d) (l : n ≤ 64 := by decide) : SeqAt.shaped d = true := shaped_iff.mpr ⟨h.1, Nat.le_trans h.2 l⟩
theorem fine_all {n : Nat} : ∀ {ds : List D}, (∀ d ∈ ds, Fine n d) → PyData.canLayAll0 ds = true ∧ PyData.depthAll ds ≤ n
  | [], _ => ⟨rfl, Nat.zero_le _⟩
  | d :: ds, h => by
    obtain ⟨a, b⟩ := fine_all fun e he => h e (List.mem_cons_of_mem _ he)
    have c := h d List.mem_cons_self
    exact ⟨by simp [PyData.canLayAll0, a, c.1], by simp only [PyData.depthAll]; exact Nat.max_le.mpr ⟨c.2, b⟩⟩
theorem fine_list {n : Nat} {ds : List D} (h : ∀ d ∈ ds, Fine n d) : Fine (n + 1) (.list ds) := by
  obtain ⟨a, b⟩ := fine_all h
  exact ⟨by simpa [PyData.canLay0] using a, by simp only [PyData.depth]; omega⟩
theorem fine_tup {n : Nat} {ds : List D} (h : ∀ d ∈ ds, Fine n d) : Fine (n + 1) (.tuple ds) := by
  obtain ⟨a, b⟩ := fine_all h
  exact ⟨by simpa [PyData.canLay0] using a, by simp only [PyData.depth]; omega⟩
theorem fine_int (i : Int) : Fine 0 (.int i) := ⟨by simp [PyData.canLay0], by simp [PyData.depth]⟩
theorem fine_str {x : Str} (h : PyData.strOk x = true) : Fine 0 (.str x) := ⟨by simpa [PyData.canLay0] using h, by simp [PyData.depth]⟩
/-- one sign -/
def ch (c : Nat) : D := .str ⟨#[c]⟩
theorem fine_ch {c : Nat} (h : c < 0x110000) : Fine 0 (ch c) := fine_str (by simp [PyData.strOk, h])
theorem ch_inj {a b : Nat} (h : ch a = ch b) : a = b := by
  unfold ch at h
  injection h with h
  injection h with h
  have := congrArg (fun z : Array Nat => z.toList) h
  simpa using this
theorem dEq_ch {a b : Nat} (ha : a < 0x110000) (hb : b < 0x110000) : dEq (ch a) (ch b) = some (.bool (decide (a = b))) := by
  unfold dEq
  rw [if_pos ⟨(fine_ch ha).shaped, (fine_ch hb).shaped⟩]
  congr 2
  unfold ch
  simp only [PyData.eqv]
  by_cases h : a = b
  · subst h; simp
  · rw [decide_eq_false h, beq_eq_false_iff_ne]
    intro e
    exact h (ch_inj (congrArg PyData.str e))
/-! ### comprehensions that change nothing else -/
theorem wipeS_in' {sl : List (Option R)} {n : Nat} : ∀ {ws : List Nat}, n ∈ ws → (wipeS sl ws)[n]? = if n < sl.length then some none else none
  | v :: ws, h => by
    unfold wipeS
    by_cases hv : v = n
    · subst hv
      by_cases hl : v < sl.length
      · rw [List.getElem?_set_self (by rw [wipeS_len]; exact hl), if_pos hl]
      · rw [List.getElem?_eq_none (by rw [List.length_set, wipeS_len]; omega), if_neg hl]
    · rw [List.getElem?_set_ne hv]
      exact wipeS_in' ((List.mem_cons.mp h).resolve_left fun z => hv z.symm)
theorem backS_same {old new : List (Option R)} {vs : List Nat} (h : wipeS new vs = wipeS old vs) : backS old new vs = old := by
  have hl : old.length = new.length := by
    have := congrArg List.length h
    rw [wipeS_len, wipeS_len] at this
    exact this.symm
  apply List.ext_getElem?
  intro n
  rw [backS_in hl]
  by_cases hn : n ∈ vs
  · rw [if_pos hn]
  · rw [if_neg hn]
    have := congrArg (fun l => l[n]?) h
    have h2 : (wipeS new vs)[n]? = (wipeS old vs)[n]? := this
    rwa [wipeS_out hn, wipeS_out hn] at h2
/-- the turns of a comprehension whose parts change nothing but its own names -/
theorem turns_pure {gg : D → Sx → Option Sx} {gt : M Bool} {ge : M D} {vs : List Nat} {b : D → Bool} {f : D → D} {w : List (Option R)} {os : List (Option Cell)} :
    ∀ (ds : List D) (sl : List (Option R)), wipeS sl vs = w → (∀ d ∈ ds, ∃ sl1, gg d ⟨w, os⟩ = some ⟨sl1, os⟩ ∧ wipeS sl1 vs = w ∧ gt ⟨sl1, os⟩ = some (b d, ⟨sl1, os⟩) ∧ (b d = true → ge ⟨sl1, os⟩ = some (f d, ⟨sl1, os⟩))) →
      ∃ sl', wipeS sl' vs = w ∧ gTurns gg gt ge vs ds ⟨sl, os⟩ = some ((ds.filter b).map f, ⟨sl', os⟩)
  | [], sl, e, _ => ⟨sl, e, rfl⟩
  | d :: ds, sl, e, h => by
    obtain ⟨sl1, h1, h2, h3, h4⟩ := h d List.mem_cons_self
    obtain ⟨sl', e', ih⟩ := turns_pure ds sl1 h2 fun x hx => h x (List.mem_cons_of_mem _ hx)
    refine ⟨sl', e', ?_⟩
    rw [gTurns]
    simp only [e, h1, h3, Option.bind_some]
    cases hb : b d with
    | true => simp [h4 hb, ih, hb]
    | false => simp [ih, hb]
/-! ### loops -/
theorem loop_inv {gg : D → Sx → Option Sx} {body : Sx → Option Out} (I : Nat → Sx → Prop) : ∀ (ds : List D) (n : Nat) (S : Sx), I n S → (∀ i d S, ds[i]? = some d → I (n + i) S → ∃ S1 S2, gg d S = some S1 ∧ body S1 = some (.nx S2) ∧ I (n + i + 1) S2) →
    ∃ S', gLoop gg body ds S = some (.nx S') ∧ I (n + ds.length) S'
  | [], n, S, h0, _ => ⟨S, rfl, h0⟩
  | d :: ds, n, S, h0, hs => by
    obtain ⟨S1, S2, h1, h2, h3⟩ := hs 0 d S rfl h0
    obtain ⟨S', h4, h5⟩ := loop_inv I ds (n + 1) S2 h3 fun i e T he hI => by
      have := hs (i + 1) e T (by simpa using he) (by rwa [show n + (i + 1) = n + 1 + i by omega])
      rwa [show n + (i + 1) + 1 = n + 1 + i + 1 by omega] at this
    refine ⟨S', ?_, by rwa [show n + (d :: ds).length = n + 1 + ds.length by simp; omega]⟩
    rw [gLoop]
    simp only [h1, h2, Option.bind_some]
    exact h4
theorem rng_at {lo : Int} {n i : Nat} {d : D} (h : (rng lo n)[i]? = some d) : i < n ∧ d = .int (lo + i) := by
  unfold rng at h
  rw [List.getElem?_map] at h
  obtain ⟨j, hj, rfl⟩ := Option.map_eq_some_iff.mp h
  obtain ⟨h1, h2⟩ := List.getElem?_eq_some_iff.mp hj
  simp at h1 h2
  subst h2
  exact ⟨h1, rfl⟩
theorem atI_ok {α : Type} {xs : List α} {i : Int} (h0 : 0 ≤ i) (h1 : i < xs.length) : L2.atI xs i = xs[i.toNat]? := by
  unfold L2.atI L2.ixN
  rw [if_pos h0, if_pos h1]; rfl
theorem line_eq : sizeLine = 16777216 := sizeLine_eq
end Fu

set_option maxHeartbeats 4000000
namespace Fu
open PySem
variable [TabsC]

/-! ### plain data: no truth value inside; there python's equality is equality -/
mutual
def plain : D → Bool
  | .none | .int _ | .str _ => true
  | .bool _ | .dict _ => false
  | .list xs | .tuple xs => plains xs
def plains : List D → Bool
  | [] => true
  | x :: xs => plain x && plains xs
end
mutual
theorem eqv_plain : ∀ d e : D, plain d = true → plain e = true → (PyData.eqv d e = true ↔ d = e)
  | .none, e, _, h => by cases e <;> simp [PyData.eqv, plain] at h ⊢
  | .int i, e, _, h => by cases e <;> simp [PyData.eqv, plain] at h ⊢
  | .str i, e, _, h => by cases e <;> simp [PyData.eqv, plain] at h ⊢
  | .bool b, _, h, _ => by simp [plain] at h
  | .dict b, _, h, _ => by simp [plain] at h
  | .list xs, e, h1, h2 => by
    cases e with
    | list ys =>
      simp only [plain] at h1 h2
      rw [PyData.eqv, eqvs_plain xs ys h1 h2]
      exact ⟨fun h => by rw [h], fun h => by injection h⟩
    | _ => simp [PyData.eqv, plain] at h2 ⊢
  | .tuple xs, e, h1, h2 => by
    cases e with
    | tuple ys =>
      simp only [plain] at h1 h2
      rw [PyData.eqv, eqvs_plain xs ys h1 h2]
      exact ⟨fun h => by rw [h], fun h => by injection h⟩
    | _ => simp [PyData.eqv, plain] at h2 ⊢
theorem eqvs_plain : ∀ xs ys : List D, plains xs = true → plains ys = true → (PyData.eqvAll xs ys = true ↔ xs = ys)
  | [], ys, _, _ => by cases ys <;> simp [PyData.eqvAll]
  | x :: xs, [], _, _ => by simp [PyData.eqvAll]
  | x :: xs, y :: ys, h1, h2 => by
    simp only [plains, Bool.and_eq_true] at h1 h2
    rw [PyData.eqvAll, Bool.and_eq_true, eqv_plain x y h1.1 h2.1, eqvs_plain xs ys h1.2 h2.2]
    exact ⟨fun h => by rw [h.1, h.2], fun h => by injection h; exact ⟨by assumption, by assumption⟩⟩
end
theorem plains_all {xs : List D} : plains xs = true ↔ ∀ d ∈ xs, plain d = true := by
  induction xs with
  | nil => simp [plains]
  | cons x xs ih => simp [plains, ih]
/-- good data: plain, of shape, not deep -/
structure Good (n : Nat) (d : D) : Prop where
  fine : Fine n d
  plain : plain d = true
theorem Good.shaped {n : Nat} {d : D} (h : Good n d) (l : n ≤ 64 := by decide) : SeqAt.shaped d = true := h.fine.shaped l
theorem Good.mono {m n : Nat} {d : D} (h : Good m d) (l : m ≤ n) : Good n d := ⟨h.fine.mono l, h.plain⟩
theorem good_int (i : Int) : Good 0 (.int i) := ⟨fine_int i, rfl⟩
theorem good_ch {c : Nat} (h : c < 0x110000) : Good 0 (ch c) := ⟨fine_ch h, rfl⟩
theorem good_list {n : Nat} {ds : List D} (h : ∀ d ∈ ds, Good n d) : Good (n + 1) (.list ds) := ⟨fine_list fun d hd => (h d hd).fine, plains_all.mpr fun d hd => (h d hd).plain⟩
theorem good_tup {n : Nat} {ds : List D} (h : ∀ d ∈ ds, Good n d) : Good (n + 1) (.tuple ds) := ⟨fine_tup fun d hd => (h d hd).fine, plains_all.mpr fun d hd => (h d hd).plain⟩
theorem good_list_le {m n : Nat} {ds : List D} (h : ∀ d ∈ ds, Good m d) (l : m + 1 ≤ n) : Good n (.list ds) := (good_list h).mono l
theorem good_tup_le {m n : Nat} {ds : List D} (h : ∀ d ∈ ds, Good m d) (l : m + 1 ≤ n) : Good n (.tuple ds) := (good_tup h).mono l
open Classical in
theorem dEq_good {m n : Nat} {d e : D} (h : Good m d) (k : Good n e) (l1 : m ≤ 64 := by decide) (l2 : n ≤ 64 := by decide) : dEq d e = some (.bool (decide (d = e))) := by
  unfold dEq
  rw [if_pos ⟨h.shaped l1, k.shaped l2⟩]
  by_cases x : d = e
  · rw [(eqv_plain d e h.plain k.plain).mpr x, decide_eq_true x]
  · rw [decide_eq_false x, Bool.eq_false_iff.mpr fun z => x ((eqv_plain d e h.plain k.plain).mp z)]
open Classical in
theorem dNe_good {m n : Nat} {d e : D} (h : Good m d) (k : Good n e) (l1 : m ≤ 64 := by decide) (l2 : n ≤ 64 := by decide) : dNe d e = some (.bool (!decide (d = e))) := by
  unfold dNe
  rw [if_pos ⟨h.shaped l1, k.shaped l2⟩]
  by_cases x : d = e
  · rw [(eqv_plain d e h.plain k.plain).mpr x, decide_eq_true x]
  · rw [decide_eq_false x, Bool.eq_false_iff.mpr fun z => x ((eqv_plain d e h.plain k.plain).mp z)]

/-! ### what a run answers, forwards -/
def Ev {α : Type} (x : Option (α × Sx)) (Q : α → Sx → Prop) : Prop := ∃ a S, x = some (a, S) ∧ Q a S
def Es (x : Option Sx) (Q : Sx → Prop) : Prop := ∃ S, x = some S ∧ Q S
def Eo (x : Option Out) (Q : Out → Prop) : Prop := ∃ o, x = some o ∧ Q o
def Ed {α : Type} (x : Option α) (Q : α → Prop) : Prop := ∃ d, x = some d ∧ Q d
theorem Ev.mono {α : Type} {x : Option (α × Sx)} {P Q : α → Sx → Prop} (h : Ev x P) (f : ∀ a S, P a S → Q a S) : Ev x Q := let ⟨a, S, e, p⟩ := h; ⟨a, S, e, f a S p⟩
theorem Eo.mono {x : Option Out} {P Q : Out → Prop} (h : Eo x P) (f : ∀ a, P a → Q a) : Eo x Q := let ⟨a, e, p⟩ := h; ⟨a, e, f a p⟩
theorem Ed.of {α : Type} {x : Option α} {d : α} {Q : α → Prop} (e : x = some d) (h : Q d) : Ed x Q := ⟨d, e, h⟩
theorem Ev.of {α : Type} {x : Option (α × Sx)} {d : α} {S : Sx} {Q : α → Sx → Prop} (e : x = some (d, S)) (h : Q d S) : Ev x Q := ⟨d, S, e, h⟩
theorem Ev.eq {α : Type} {x : Option (α × Sx)} {d : α} {S : Sx} (h : Ev x fun a T => a = d ∧ T = S) : x = some (d, S) := by
  obtain ⟨a, T, e, rfl, rfl⟩ := h; exact e
theorem Es.eq {x : Option Sx} {S : Sx} (h : Es x fun T => T = S) : x = some S := by
  obtain ⟨T, e, rfl⟩ := h; exact e
section
variable {α : Type} {S : Sx} {Q : D → Sx → Prop} {P : Bool → Sx → Prop} {L : List D → Sx → Prop} {O : Option Int → Sx → Prop} {Z : Out → Prop} {W : Sx → Prop}
theorem ev_c {d : D} (h : Q d S) : Ev (gC d S) Q := ⟨d, S, rfl, h⟩
theorem ev_var {sl : List (Option R)} {os : List (Option Cell)} {i : Nat} (h : ∃ d, sl[i]? = some (some (.dat d)) ∧ Q d ⟨sl, os⟩) : Ev (gVar i ⟨sl, os⟩) Q := by
  obtain ⟨d, e, h⟩ := h
  exact ⟨d, _, by unfold gVar; simp only [e], h⟩
theorem ev_bin {f : D → D → Option D} {ga gb : M D} (h : Ev (ga S) fun d S1 => Ev (gb S1) fun e S2 => Ed (f d e) fun z => Q z S2) : Ev (gBin f ga gb S) Q := by
  obtain ⟨d, S1, e1, e, S2, e2, z, e3, q⟩ := h
  exact ⟨z, S2, by simp only [gBin, e1, e2, e3, Option.bind_some], q⟩
theorem ev_un {f : D → Option D} {ga : M D} (h : Ev (ga S) fun d S1 => Ed (f d) fun z => Q z S1) : Ev (gUn f ga S) Q := by
  obtain ⟨d, S1, e1, z, e3, q⟩ := h
  exact ⟨z, S1, by simp only [gUn, e1, e3, Option.bind_some], q⟩
theorem ev_nil (h : L [] S) : Ev (gNil S) L := ⟨_, _, rfl, h⟩
theorem ev_cons {g : M D} {gs : M (List D)} (h : Ev (g S) fun d S1 => Ev (gs S1) fun ds S2 => L (d :: ds) S2) : Ev (gCons g gs S) L := by
  obtain ⟨d, S1, e1, e, S2, e2, q⟩ := h
  exact ⟨_, S2, by simp only [gCons, e1, e2, Option.bind_some], q⟩
theorem ev_tup {g : M (List D)} (h : Ev (g S) fun ds S1 => ds.length ≤ 16777216 ∧ Q (.tuple ds) S1) : Ev (gTup g S) Q := by
  obtain ⟨d, S1, e1, l, q⟩ := h
  exact ⟨_, S1, by simp only [gTup, e1, Option.bind_some, line_eq, if_pos l], q⟩
theorem ev_lst {g : M (List D)} (h : Ev (g S) fun ds S1 => ds.length ≤ 16777216 ∧ Q (.list ds) S1) : Ev (gLst g S) Q := by
  obtain ⟨d, S1, e1, l, q⟩ := h
  exact ⟨_, S1, by simp only [gLst, e1, Option.bind_some, line_eq, if_pos l], q⟩
theorem ev_call {f : List D → Option D} {g : M (List D)} (h : Ev (g S) fun ds S1 => Ed (f ds) fun z => Q z S1) : Ev (gCall f g S) Q := by
  obtain ⟨d, S1, e1, z, e3, q⟩ := h
  exact ⟨z, S1, by simp only [gCall, e1, e3, Option.bind_some], q⟩
theorem ev_callF {n : Nat} {f : List D → Option D} {g : M (List D)} (h : Ev (g S) fun ds S1 => ds.length = n ∧ Ed (f ds) fun z => Q z S1) : Ev (gCallF n f g S) Q := by
  obtain ⟨d, S1, e1, l, z, e3, q⟩ := h
  exact ⟨z, S1, by simp only [gCallF, e1, e3, Option.bind_some, if_pos l], q⟩
theorem ev_isi {T : String} {g : M D} (h : Ev (g S) fun d S1 => Q (.bool (isT T d)) S1) : Ev (gIsi T g S) Q := by
  obtain ⟨d, S1, e1, q⟩ := h
  exact ⟨_, S1, by simp only [gIsi, e1, Option.bind_some], q⟩
theorem ev_isi2 {T U : String} {g : M D} (h : Ev (g S) fun d S1 => Q (.bool (isT T d || isT U d)) S1) : Ev (gIsi2 T U g S) Q := by
  obtain ⟨d, S1, e1, q⟩ := h
  exact ⟨_, S1, by simp only [gIsi2, e1, Option.bind_some], q⟩
theorem ev_andV {g k : M D} (h : Ev (g S) fun d S1 => ∃ b, d = .bool b ∧ (b = true → Ev (k S1) fun e S2 => ∃ c, e = .bool c ∧ Q (.bool c) S2) ∧ (b = false → Q (.bool false) S1)) : Ev (gAndV g k S) Q := by
  obtain ⟨d, S1, e1, b, rfl, h1, h2⟩ := h
  cases b with
  | true => 
    obtain ⟨e, S2, e2, c, rfl, q⟩ := h1 rfl
    exact ⟨_, S2, by simp [gAndV, e1, e2], q⟩
  | false => exact ⟨_, S1, by simp [gAndV, e1], h2 rfl⟩
theorem ev_orV {g k : M D} (h : Ev (g S) fun d S1 => ∃ b, d = .bool b ∧ (b = false → Ev (k S1) fun e S2 => ∃ c, e = .bool c ∧ Q (.bool c) S2) ∧ (b = true → Q (.bool true) S1)) : Ev (gOrV g k S) Q := by
  obtain ⟨d, S1, e1, b, rfl, h1, h2⟩ := h
  cases b with
  | false => 
    obtain ⟨e, S2, e2, c, rfl, q⟩ := h1 rfl
    exact ⟨_, S2, by simp [gOrV, e1, e2], q⟩
  | true => exact ⟨_, S1, by simp [gOrV, e1], h2 rfl⟩
theorem ev_notV {g : M D} (h : Ev (g S) fun d S1 => ∃ b, d = .bool b ∧ Q (.bool !b) S1) : Ev (gNotV g S) Q := by
  obtain ⟨d, S1, e1, b, rfl, q⟩ := h
  exact ⟨_, S1, by simp [gNotV, e1], q⟩
theorem ev_B {g : M D} (h : Ev (g S) fun d S1 => ∃ b, d = .bool b ∧ P b S1) : Ev (gB g S) P := by
  obtain ⟨d, S1, e1, b, rfl, q⟩ := h
  exact ⟨b, S1, by simp only [gB, e1, Option.bind_some], q⟩
theorem ev_and {g k : M Bool} (h : Ev (g S) fun b S1 => (b = true → Ev (k S1) P) ∧ (b = false → P false S1)) : Ev (gAnd g k S) P := by
  obtain ⟨b, S1, e1, h1, h2⟩ := h
  cases b with
  | true => 
    obtain ⟨c, S2, e2, q⟩ := h1 rfl
    exact ⟨_, S2, by simp [gAnd, e1, e2], q⟩
  | false => exact ⟨_, S1, by simp [gAnd, e1], h2 rfl⟩
theorem ev_or {g k : M Bool} (h : Ev (g S) fun b S1 => (b = false → Ev (k S1) P) ∧ (b = true → P true S1)) : Ev (gOr g k S) P := by
  obtain ⟨b, S1, e1, h1, h2⟩ := h
  cases b with
  | false => 
    obtain ⟨c, S2, e2, q⟩ := h1 rfl
    exact ⟨_, S2, by simp [gOr, e1, e2], q⟩
  | true => exact ⟨_, S1, by simp [gOr, e1], h2 rfl⟩
theorem ev_not {g : M Bool} (h : Ev (g S) fun b S1 => P (!b) S1) : Ev (gNot g S) P := by
  obtain ⟨b, S1, e1, q⟩ := h
  exact ⟨_, S1, by simp [gNot, e1], q⟩
theorem ev_yes (h : P true S) : Ev (gYes S) P := ⟨_, _, rfl, h⟩
theorem ev_if {t : M Bool} {g k : M D} (h : Ev (t S) fun b S1 => (b = true → Ev (g S1) Q) ∧ (b = false → Ev (k S1) Q)) : Ev (gIf t g k S) Q := by
  obtain ⟨b, S1, e1, h1, h2⟩ := h
  cases b with
  | true => 
    obtain ⟨c, S2, e2, q⟩ := h1 rfl
    exact ⟨_, S2, by simp [gIf, e1, e2], q⟩
  | false =>
    obtain ⟨c, S2, e2, q⟩ := h2 rfl
    exact ⟨_, S2, by simp [gIf, e1, e2], q⟩
theorem ev_no (h : O none S) : Ev (gNo S) O := ⟨_, _, rfl, h⟩
theorem ev_so {g : M D} (h : Ev (g S) fun d S1 => ∃ i, d = .int i ∧ O (some i) S1) : Ev (gSo g S) O := by
  obtain ⟨d, S1, e1, i, rfl, q⟩ := h
  exact ⟨_, S1, by simp only [gSo, e1, Option.bind_some], q⟩
theorem ev_sl {g : M D} {gl gh : M (Option Int)} (h : Ev (g S) fun d S1 => Ev (gl S1) fun lo S2 => Ev (gh S2) fun hi S3 => Ed (dSl d lo hi) fun z => Q z S3) : Ev (gSl g gl gh S) Q := by
  obtain ⟨d, S1, e1, lo, S2, e2, hi, S3, e3, z, e4, q⟩ := h
  exact ⟨z, S3, by simp only [gSl, e1, e2, e3, e4, Option.bind_some], q⟩
theorem ev_items {g : M D} (h : Ev (g S) fun d S1 => Ed (itemsOf d) fun xs => L xs S1) : Ev (gItems g S) L := by
  obtain ⟨d, S1, e1, xs, e2, q⟩ := h
  exact ⟨xs, S1, by simp only [gItems, e1, e2, Option.bind_some], q⟩
theorem ev_rng1 {g : M (List D)} (h : Ev (g S) fun ds S1 => ∃ n : Int, ds = [.int n] ∧ -4611686018427387904 ≤ n ∧ n ≤ 16777216 ∧ L (rng 0 n.toNat) S1) : Ev (gRng1 g S) L := by
  obtain ⟨ds, S1, e1, n, rfl, l1, l2, q⟩ := h
  exact ⟨_, S1, by simp only [gRng1, e1, Option.bind_some, line_eq]; rw [if_pos ⟨by omega, by omega⟩], q⟩
theorem ev_rng2 {g : M (List D)} (h : Ev (g S) fun ds S1 => ∃ i j : Int, ds = [.int i, .int j] ∧ -4294967296 ≤ i ∧ i ≤ 4294967296 ∧ -4294967296 ≤ j ∧ j ≤ 4294967296 ∧ j - i ≤ 16777216 ∧ L (rng i (j - i).toNat) S1) : Ev (gRng2 g S) L := by
  obtain ⟨ds, S1, e1, i, j, rfl, l1, l2, l3, l4, l5, q⟩ := h
  exact ⟨_, S1, by simp only [gRng2, e1, Option.bind_some, line_eq]; rw [if_pos ⟨by omega, by omega, by omega, by omega, by omega⟩], q⟩
/-- a comprehension that changes nothing else -/
theorem ev_lc {gi : M (List D)} {gg : D → Sx → Option Sx} {gt : M Bool} {ge : M D} {vs : List Nat} (b : D → Bool) (f : D → D)
    (h : Ev (gi S) fun ds S1 => (∀ d ∈ ds, Es (gg d ⟨wipeS S1.sl vs, S1.os⟩) fun S2 => wipeS S2.sl vs = wipeS S1.sl vs ∧ S2.os = S1.os ∧ Ev (gt S2) fun c S3 => S3 = S2 ∧ c = b d ∧ (b d = true → Ev (ge S2) fun e S4 => e = f d ∧ S4 = S2)) ∧ Q (.list ((ds.filter b).map f)) S1) : Ev (gLc gi gg gt ge vs S) Q := by
  obtain ⟨ds, ⟨sl1, os1⟩, e1, h1, q⟩ := h
  obtain ⟨sl', e', ht⟩ := turns_pure (gg := gg) (gt := gt) (ge := ge) (b := b) (f := f) ds sl1 rfl fun d hd => by
    obtain ⟨⟨sl2, os2⟩, e2, e3, e4, c, S3, e5, e6, e7, e8⟩ := h1 d hd
    cases e4
    subst e7 e6
    exact ⟨sl2, e2, e3, e5, fun hb => (e8 hb).eq⟩
  refine ⟨_, _, ?_, q⟩
  unfold gLc
  rw [e1]
  simp only [Option.bind_some, ht, backS_same e']
theorem ev_map {gi : M (List D)} {gg : D → Sx → Option Sx} {ge : M D} {vs : List Nat} (f : D → D)
    (h : Ev (gi S) fun ds S1 => (∀ d ∈ ds, Es (gg d ⟨wipeS S1.sl vs, S1.os⟩) fun S2 => wipeS S2.sl vs = wipeS S1.sl vs ∧ S2.os = S1.os ∧ Ev (ge S2) fun e S4 => e = f d ∧ S4 = S2) ∧ Q (.list (ds.map f)) S1) : Ev (gLc gi gg gYes ge vs S) Q := by
  refine ev_lc (fun _ => true) f ?_
  refine h.mono fun ds S1 h => ⟨fun d hd => ?_, by rw [List.filter_eq_self.mpr fun _ _ => rfl]; exact h.2⟩
  obtain ⟨S2, e2, e3, e4, e5⟩ := h.1 d hd
  exact ⟨S2, e2, e3, e4, ev_yes ⟨rfl, rfl, fun _ => e5⟩⟩
theorem es_name {i : Nat} {d : D} (h : W ⟨S.sl.set i (some (.dat d)), S.os⟩) : Es (sName i d S) W := ⟨_, rfl, h⟩
theorem es_tup2 {i j : Nat} {d e : D} (h : W ⟨(S.sl.set i (some (.dat d))).set j (some (.dat e)), S.os⟩) : Es (sTup 2 (sCons (sName i) (sCons (sName j) sNil)) (.tuple [d, e]) S) W := ⟨_, rfl, h⟩
theorem es_tup3 {i j k : Nat} {d e f : D} (h : W ⟨((S.sl.set i (some (.dat d))).set j (some (.dat e))).set k (some (.dat f)), S.os⟩) : Es (sTup 3 (sCons (sName i) (sCons (sName j) (sCons (sName k) sNil))) (.tuple [d, e, f]) S) W := ⟨_, rfl, h⟩
/-- what goes on after a statement -/
def Then (h : Sx → Option Out) (Z : Out → Prop) : Out → Prop
  | .nx S => Eo (h S) Z
  | .rt d S => Z (.rt d S)
  | .bk S => Z (.bk S)
  | .ct S => Z (.ct S)
  | .ro j S => Z (.ro j S)
theorem eo_seq {g h : Sx → Option Out} (e : Eo (g S) (Then h Z)) : Eo (qSeq g h S) Z := by
  obtain ⟨o, e1, q⟩ := e
  cases o with
  | nx S1 =>
    obtain ⟨o2, e2, q⟩ := q
    exact ⟨o2, by simp only [qSeq, e1, Option.bind_some, e2], q⟩
  | _ => exact ⟨_, by simp only [qSeq, e1, Option.bind_some], q⟩
theorem then_nx' {h : Sx → Option Out} {S1 : Sx} (e : ∃ S2, S1 = S2 ∧ Eo (h S2) Z) : Then h Z (.nx S1) := by obtain ⟨_, rfl, e⟩ := e; exact e
theorem eo_nx (h : Z (.nx S)) : Eo (qNx S) Z := ⟨_, rfl, h⟩
theorem eo_drop {g : M D} (h : Ev (g S) fun _ S1 => Z (.nx S1)) : Eo (qDrop g S) Z := by
  obtain ⟨d, S1, e1, q⟩ := h
  exact ⟨_, by simp only [qDrop, e1, Option.bind_some], q⟩
theorem eo_ret {g : M D} (h : Ev (g S) fun d S1 => Z (.rt d S1)) : Eo (qRet g S) Z := by
  obtain ⟨d, S1, e1, q⟩ := h
  exact ⟨_, by simp only [qRet, e1, Option.bind_some], q⟩
theorem eo_retN (h : Z (.rt .none S)) : Eo (qRetN S) Z := ⟨_, rfl, h⟩
theorem eo_if {t : M Bool} {g k : Sx → Option Out} (h : Ev (t S) fun b S1 => (b = true → Eo (g S1) Z) ∧ (b = false → Eo (k S1) Z)) : Eo (qIf t g k S) Z := by
  obtain ⟨b, S1, e1, h1, h2⟩ := h
  cases b with
  | true =>
    obtain ⟨c, e2, q⟩ := h1 rfl
    exact ⟨_, by simp [qIf, e1, e2], q⟩
  | false =>
    obtain ⟨c, e2, q⟩ := h2 rfl
    exact ⟨_, by simp [qIf, e1, e2], q⟩
theorem eo_set {i : Nat} {g : M D} (h : Ev (g S) fun d S1 => Z (.nx ⟨S1.sl.set i (some (.dat d)), S1.os⟩)) : Eo (qSet i g S) Z := by
  obtain ⟨d, S1, e1, q⟩ := h
  exact ⟨_, by simp only [qSet, e1, Option.bind_some], q⟩
theorem eo_asg {gg : D → Sx → Option Sx} {g : M D} (h : Ev (g S) fun d S1 => Es (gg d S1) fun S2 => Z (.nx S2)) : Eo (qAsg gg g S) Z := by
  obtain ⟨d, S1, e1, S2, e2, q⟩ := h
  exact ⟨_, by simp only [qAsg, e1, e2, Option.bind_some], q⟩
theorem eo_par {i j : Nat} {g : M (List D)} (h : Ev (g S) fun ds S1 => ∃ d e, ds = [d, e] ∧ Z (.nx ⟨(S1.sl.set i (some (.dat d))).set j (some (.dat e)), S1.os⟩)) : Eo (qPar i j g S) Z := by
  obtain ⟨ds, S1, e1, d, e, rfl, q⟩ := h
  exact ⟨_, by simp only [qPar, e1, Option.bind_some], q⟩
theorem eo_own {i : Nat} {g : M D} (h : Ev (g S) fun d S1 => ∃ ds, d = .list ds ∧ Z (.nx ⟨S1.sl.set i (some (.own S1.os.length)), S1.os ++ [some (.lst ds)]⟩)) : Eo (qOwn i g S) Z := by
  obtain ⟨d, S1, e1, ds, rfl, q⟩ := h
  exact ⟨_, by simp only [qOwn, e1, Option.bind_some], q⟩
theorem eo_retO {g : M D} (h : Ev (g S) fun d S1 => ∃ ds, d = .list ds ∧ Z (.ro S1.os.length ⟨S1.sl, S1.os ++ [some (.lst ds)]⟩)) : Eo (qRetO g S) Z := by
  obtain ⟨d, S1, e1, ds, rfl, q⟩ := h
  exact ⟨_, by simp only [qRetO, e1, Option.bind_some], q⟩
theorem eo_for {gi : M (List D)} {gg : D → Sx → Option Sx} {body : Sx → Option Out} (h : Ev (gi S) fun ds S1 => Eo (gLoop gg body ds S1) Z) : Eo (qFor gi gg body S) Z := by
  obtain ⟨ds, S1, e1, o, e2, q⟩ := h
  exact ⟨_, by simp only [qFor, e1, Option.bind_some, e2], q⟩
theorem eo_loop {gg : D → Sx → Option Sx} {body : Sx → Option Out} {ds : List D} (I : Nat → Sx → Prop) (h0 : I 0 S) (hs : ∀ i d S, ds[i]? = some d → I i S → Es (gg d S) fun S1 => Eo (body S1) fun o => ∃ S2, o = .nx S2 ∧ I (i + 1) S2) (hz : ∀ S', I ds.length S' → Z (.nx S')) : Eo (gLoop gg body ds S) Z := by
  obtain ⟨S', e, q⟩ := loop_inv (gg := gg) (body := body) I ds 0 S h0 fun i d S h1 h2 => by
    rw [Nat.zero_add] at h2 ⊢
    obtain ⟨S1, e1, o, e2, S2, rfl, q⟩ := hs i d S h1 h2
    exact ⟨S1, S2, e1, e2, q⟩
  rw [Nat.zero_add] at q
  exact ⟨_, e, hz S' q⟩
end

theorem then_rt {h : Sx → Option Out} {Z : Out → Prop} {d : D} {S : Sx} (q : Z (.rt d S)) : Then h Z (.rt d S) := q
theorem split_t {A B : Prop} {b : Bool} (e : b = true) (h : A) : (b = true → A) ∧ (b = false → B) := ⟨fun _ => h, fun k => by rw [e] at k; cases k⟩
theorem split_f {A B : Prop} {b : Bool} (e : b = false) (h : B) : (b = true → A) ∧ (b = false → B) := ⟨fun k => (by rw [e] at k; cases k), fun _ => h⟩
theorem split_t' {A B : Prop} {b : Bool} (e : b = true) (h : A) : (b = false → B) ∧ (b = true → A) := ⟨fun k => (by rw [e] at k; cases k), fun _ => h⟩
theorem split_f' {A B : Prop} {b : Bool} (e : b = false) (h : B) : (b = false → B) ∧ (b = true → A) := ⟨fun _ => h, fun k => by rw [e] at k; cases k⟩
/-! ### whole defs -/
def Gives (z : D) : Out → Prop
  | .rt d _ => d = z
  | .nx _ => z = .none
  | _ => False
theorem mF_of {n : Nat} {g : Sx → Option Out} {ds : List D} {z : D} (h : Eo (g ⟨initS n ds, []⟩) (Gives z)) : mF n g ds = some z := by
  obtain ⟨o, e, q⟩ := h
  unfold mF
  rw [e]
  cases o with
  | nx S => cases q; rfl
  | rt d S => cases q; rfl
  | _ => exact q.elim
theorem gives_rt {z d : D} {S : Sx} (h : d = z) : Gives z (.rt d S) := h
@[simp] theorem gives_rtI {z d : D} {S : Sx} : Gives z (.rt d S) ↔ d = z := Iff.rfl
theorem gives_nx {S : Sx} : Gives .none (.nx S) := rfl
def GivesO (Q : D → List D → Prop) : Out → Prop
  | .rt d S => ∃ cs, cellOf S 0 = some cs ∧ Q d cs
  | .nx S => ∃ cs, cellOf S 0 = some cs ∧ Q .none cs
  | _ => False
theorem mIO_of {n : Nat} {g : Sx → Option Out} {cs ds : List D} {Q : D → List D → Prop} (h : Eo (g ⟨some (.own 0) :: initS (n - 1) ds, [some (.lst cs)]⟩) (GivesO Q)) : ∃ d cs', mIO n g cs ds = some (d, cs') ∧ Q d cs' := by
  obtain ⟨o, e, q⟩ := h
  unfold mIO
  rw [e]
  cases o with
  | nx S => obtain ⟨cs', e, q⟩ := q; exact ⟨_, cs', by simp [e], q⟩
  | rt d S => obtain ⟨cs', e, q⟩ := q; exact ⟨_, cs', by simp [e], q⟩
  | _ => exact q.elim
theorem ev_IO {sl : List (Option R)} {os : List (Option Cell)} {i n : Nat} {f : List D → List D → Option (D × List D)} {g : M (List D)} {Q : D → Sx → Prop}
    (h : ∃ j, sl[i]? = some (some (.own j)) ∧ Ev (g ⟨sl, os⟩) fun ds S1 => ∃ cs, S1.os[j]? = some (some (.lst cs)) ∧ ds.length = n ∧ ∃ d cs', f cs ds = some (d, cs') ∧ Q d ⟨S1.sl, S1.os.set j (some (.lst cs'))⟩) : Ev (gIO i n f g ⟨sl, os⟩) Q := by
  obtain ⟨j, hi, ds, S1, e1, cs, e2, l, d, cs', e3, q⟩ := h
  exact ⟨d, _, by simp only [gIO, hi, e1, e2, e3, Option.bind_some, if_pos l], q⟩
theorem ev_ixO {sl : List (Option R)} {os : List (Option Cell)} {i : Nat} {gb : M D} {Q : D → Sx → Prop}
    (h : ∃ j cs, sl[i]? = some (some (.own j)) ∧ os[j]? = some (some (.lst cs)) ∧ Ev (gb ⟨sl, os⟩) fun d S1 => ∃ n, d = .int n ∧ S1 = ⟨sl, os⟩ ∧ Ed (L2.atI cs n) fun e => Q e ⟨sl, os⟩) : Ev (gIxO i gb ⟨sl, os⟩) Q := by
  obtain ⟨j, cs, hi, hc, d, S1, e1, n, rfl, rfl, e, e2, q⟩ := h
  exact ⟨e, _, by simp only [gIxO, ownOf, cellOf, hi, hc, e1, e2, Option.bind_some], q⟩
theorem eo_setO {S : Sx} {i : Nat} {gb ge : M D} {Z : Out → Prop} (h : Ev (ge S) fun d S1 => ∃ j cs, S1.sl[i]? = some (some (.own j)) ∧ S1.os[j]? = some (some (.lst cs)) ∧ Ev (gb S1) fun n S2 => S2 = S1 ∧ ∃ k : Nat, n = .int k ∧ k < cs.length ∧ Z (.nx ⟨S1.sl, S1.os.set j (some (.lst (cs.set k d)))⟩)) : Eo (qSetO i gb ge S) Z := by
  obtain ⟨d, S1, e1, j, cs, hi, hc, n, S2, e2, rfl, k, rfl, l, q⟩ := h
  refine ⟨_, ?_, q⟩
  have : L2.ixN cs.length (k : Int) = some k := by
    unfold L2.ixN
    rw [if_pos (by omega), if_pos (by omega)]; simp
  simp only [qSetO, e1, Option.bind_some, ownOf, cellOf, hi, hc, e2, this, setCell]
theorem ev_app {S : Sx} {i : Nat} {ge : M D} {Q : D → Sx → Prop} (hi : ∃ j cs, S.sl[i]? = some (some (.own j)) ∧ S.os[j]? = some (some (.lst cs)) ∧ Ev (ge S) fun d S1 => ∃ cs, S1.os[j]? = some (some (.lst cs)) ∧ cs.length < 16777216 ∧ Q .none ⟨S1.sl, S1.os.set j (some (.lst (cs ++ [d])))⟩) : Ev (gApp i ge S) Q := by
  obtain ⟨j, cs, h1, h2, d, S1, e1, cs1, h3, l, q⟩ := hi
  refine ⟨_, _, ?_, q⟩
  simp only [gApp, ownOf, h1, h2, cellOf, Option.bind_some, e1, h3, line_eq, if_pos l, setCell]
theorem ev_lenO {sl : List (Option R)} {os : List (Option Cell)} {i : Nat} {Q : D → Sx → Prop} (h : ∃ j cs, sl[i]? = some (some (.own j)) ∧ os[j]? = some (some (.lst cs)) ∧ Q (.int cs.length) ⟨sl, os⟩) : Ev (gLenO i ⟨sl, os⟩) Q := by
  obtain ⟨j, cs, hi, hc, h⟩ := h
  exact ⟨_, _, by simp only [gLenO, ownOf, cellOf, hi, hc, Option.bind_some], h⟩
theorem ev_scrSl {sl : List (Option R)} {os : List (Option Cell)} {i : Nat} {gl gh : M (Option Int)} {Q : D → Sx → Prop} (h : ∃ ns, sl[i]? = some (some (.scr ns)) ∧ Ev (gl ⟨sl, os⟩) fun lo S1 => Ev (gh S1) fun hi S2 => Q (.list ((cutL ns lo hi).map .int)) S2) : Ev (gScrSl i gl gh ⟨sl, os⟩) Q := by
  obtain ⟨ns, hi, lo, S1, e1, hi2, S2, e2, h⟩ := h
  exact ⟨_, _, by simp only [gScrSl, scrOf, hi, Option.bind_some, e1, e2], h⟩
theorem ev_scrLen {sl : List (Option R)} {os : List (Option Cell)} {i : Nat} {Q : D → Sx → Prop} (h : ∃ ns : List Int, sl[i]? = some (some (.scr ns)) ∧ Q (.int ns.length) ⟨sl, os⟩) : Ev (gScrLen i ⟨sl, os⟩) Q := by
  obtain ⟨ns, hi, h⟩ := h
  exact ⟨_, _, by simp only [gScrLen, scrOf, hi, Option.bind_some], h⟩
theorem ev_callScr {sl : List (Option R)} {os : List (Option Cell)} {i : Nat} {f : List Int → Option (List D)} {Q : D → Sx → Prop} (h : ∃ ns : List Int, sl[i]? = some (some (.scr ns)) ∧ Ed (f ns) fun z => Q (.list z) ⟨sl, os⟩) : Ev (gCallScr i f ⟨sl, os⟩) Q := by
  obtain ⟨ns, hi, z, e, h⟩ := h
  exact ⟨_, _, by simp only [gCallScr, scrOf, hi, Option.bind_some, e], h⟩
theorem mScrN_of {n : Nat} {g : Sx → Option Out} {ns : List Int} {Q : List D → Prop} (h : Eo (g ⟨some (.scr ns) :: List.replicate (n - 1) none, []⟩) fun o => ∃ j S cs, o = .ro j S ∧ cellOf S j = some cs ∧ Q cs) : ∃ cs, mScrN n g ns = some cs ∧ Q cs := by
  obtain ⟨_, e, j, S, cs, rfl, h, q⟩ := h
  exact ⟨cs, by unfold mScrN; simp only [e, Option.bind_some, h], q⟩
theorem mScr_of {n : Nat} {g : Sx → Option Out} {ns : List Int} {z : D} (h : Eo (g ⟨some (.scr ns) :: List.replicate (n - 1) none, []⟩) fun o => ∃ S, o = .rt z S) : mScr n g ns = some z := by
  obtain ⟨_, e, S, rfl⟩ := h
  unfold mScr; simp only [e, Option.bind_some]

/-! ### operations on data -/
section
variable {Q : D → Prop} {i j : Int} {xs ys : List D}
theorem ed_addI (h : Q (.int (i + j))) : Ed (dAdd (.int i) (.int j)) Q := ⟨_, rfl, h⟩
theorem ed_subI (h : Q (.int (i - j))) : Ed (dSub (.int i) (.int j)) Q := ⟨_, rfl, h⟩
theorem ed_addT (l : xs.length + ys.length ≤ 16777216) (h : Q (.tuple (xs ++ ys))) : Ed (dAdd (.tuple xs) (.tuple ys)) Q := ⟨_, by simp only [dAdd, line_eq, if_pos l], h⟩
theorem ed_addL (l : xs.length + ys.length ≤ 16777216) (h : Q (.list (xs ++ ys))) : Ed (dAdd (.list xs) (.list ys)) Q := ⟨_, by simp only [dAdd, line_eq, if_pos l], h⟩
theorem ed_mulI (l : L2.CMulW i j) (h : Q (.int (i * j))) : Ed (dMul (.int i) (.int j)) Q := ⟨_, by simp only [dMul, if_pos l], h⟩
theorem ed_repB {b : Bool} (l : xs.length ≤ 16777216) (h : Q (.list (if b then xs else []))) : Ed (dMul (.list xs) (.int (if b then 1 else 0))) Q := by
  refine ⟨_, ?_, h⟩
  cases b with
  | true => simp only [dMul, line_eq, if_true]; rw [if_pos ⟨by decide, by decide, by simpa using l⟩]; simp
  | false => simp only [dMul, line_eq]; rw [if_pos ⟨by decide, by decide, by simp⟩]; rfl
theorem ed_divI (l : L2.CDivW i j) (h : Q (.int (i / j))) : Ed (dDiv (.int i) (.int j)) Q := ⟨_, by simp only [dDiv, if_pos l], h⟩
theorem ed_modI (l : 0 < j) (h : Q (.int (i % j))) : Ed (dMod (.int i) (.int j)) Q := ⟨_, by simp only [dMod, if_pos l], h⟩
theorem ed_cmp {p : Int → Int → Bool} (h : Q (.bool (p i j))) : Ed (dCmp p (.int i) (.int j)) Q := ⟨_, rfl, h⟩
theorem ed_eqI (h : Q (.bool (decide (i = j)))) : Ed (dEq (.int i) (.int j)) Q := ⟨_, dEq_int i j, h⟩
theorem ed_neI (h : Q (.bool (!decide (i = j)))) : Ed (dNe (.int i) (.int j)) Q := ⟨_, dNe_int i j, h⟩
theorem ed_ixT {d : D} (h0 : 0 ≤ i) (e : xs[i.toNat]? = some d) (h : Q d) : Ed (dIx (.tuple xs) (.int i)) Q := ⟨d, by
  have hl := (List.getElem?_eq_some_iff.mp e).1
  show L2.atI xs i = _
  rw [atI_ok h0 (by omega), e], h⟩
theorem ed_ixL {d : D} (h0 : 0 ≤ i) (e : xs[i.toNat]? = some d) (h : Q d) : Ed (dIx (.list xs) (.int i)) Q := ⟨d, by
  have hl := (List.getElem?_eq_some_iff.mp e).1
  show L2.atI xs i = _
  rw [atI_ok h0 (by omega), e], h⟩
theorem ed_at {d : D} {Q : D → Prop} (h0 : 0 ≤ i) (e : xs[i.toNat]? = some d) (h : Q d) : Ed (L2.atI xs i) Q := ed_ixT h0 e h
theorem ed_slT {lo hi : Option Int} (h : Q (.tuple (cutL xs lo hi))) : Ed (dSl (.tuple xs) lo hi) Q := ⟨_, rfl, h⟩
theorem ed_slL {lo hi : Option Int} (h : Q (.list (cutL xs lo hi))) : Ed (dSl (.list xs) lo hi) Q := ⟨_, rfl, h⟩
theorem ed_lenT (h : Q (.int xs.length)) : Ed (dLen [.tuple xs]) Q := ⟨_, rfl, h⟩
theorem ed_lenL (h : Q (.int xs.length)) : Ed (dLen [.list xs]) Q := ⟨_, rfl, h⟩
theorem ed_lenS {x : Str} (h : Q (.int x.length)) : Ed (dLen [.str x]) Q := ⟨_, rfl, h⟩
theorem ed_inS {c : Nat} {y : Str} (h : Q (.bool (decide (c ∈ y.cps.toList)))) : Ed (dIn (.str ⟨#[c]⟩) (.str y)) Q := ⟨_, by simp only [dIn]; rw [PySem.StrLaws.found_one], h⟩
theorem ed_powI (l : L2.CPow i j) (h : Q (.int (i ^ j.toNat))) : Ed (dPow (.int i) (.int j)) Q := ⟨_, by simp only [dPow, if_pos l], h⟩
theorem ed_neg (h : Q (.int (-i))) : Ed (dNeg (.int i)) Q := ⟨_, rfl, h⟩
theorem ed_max (h : Q (.int (max i j))) : Ed (dMax2 [.int i, .int j]) Q := ⟨_, rfl, by
  have : (if j > i then j else i) = max i j := by split <;> omega
  rw [this]; exact h⟩
theorem ed_min (h : Q (.int (min i j))) : Ed (dMin2 [.int i, .int j]) Q := ⟨_, rfl, by
  have : (if j < i then j else i) = min i j := by split <;> omega
  rw [this]; exact h⟩
theorem ed_intB {b : Bool} (h : Q (.int (if b then 1 else 0))) : Ed (dInt [.bool b]) Q := ⟨_, rfl, h⟩
theorem ed_ixS {x : Str} {c : Nat} (h0 : 0 ≤ i) (e : x.cps.toList[i.toNat]? = some c) (h : Q (ch c)) : Ed (dIx (.str x) (.int i)) Q := ⟨_, by
  have hl := (List.getElem?_eq_some_iff.mp e).1
  show (L2.atI x.cps.toList i).bind _ = _
  rw [atI_ok h0 (by omega), e]; rfl, h⟩
theorem ed_itT {Q : List D → Prop} (h : Q xs) : Ed (itemsOf (.tuple xs)) Q := ⟨_, rfl, h⟩
theorem ed_itL {Q : List D → Prop} (h : Q xs) : Ed (itemsOf (.list xs)) Q := ⟨_, rfl, h⟩
theorem ed_tupL (h : Q (.tuple xs)) : Ed (dTuple [.list xs]) Q := ⟨_, rfl, h⟩
theorem ed_tupT (h : Q (.tuple xs)) : Ed (dTuple [.tuple xs]) Q := ⟨_, rfl, h⟩
theorem ed_listL (h : Q (.list xs)) : Ed (dList [.list xs]) Q := ⟨_, rfl, h⟩
theorem ed_listT (h : Q (.list xs)) : Ed (dList [.tuple xs]) Q := ⟨_, rfl, h⟩
end
theorem allBools_fn {α : Type} (f : α → Bool) : ∀ xs : List α, allBools (xs.map fun a => .bool (f a)) = some (xs.map f)
  | [] => rfl
  | a :: xs => by simp [allBools, allBools_fn f xs]
theorem all_map {α : Type} (f : α → Bool) (xs : List α) : dAll [.list (xs.map fun a => .bool (f a))] = some (.bool (xs.all f)) := by
  simp only [dAll, allBools_fn, Option.bind_some]; rw [List.all_map]; rfl
theorem cut_to {α : Type} {xs : List α} {i : Int} (h : 0 ≤ i) : cutL xs none (some i) = xs.take i.toNat := by
  unfold cutL HT.sIx
  simp only [if_neg (show ¬ i < 0 by omega), List.drop_zero, Nat.sub_zero]
  rw [← List.take_take]
  simp [Nat.min_def]
theorem cut_from {α : Type} {xs : List α} {i : Int} (h : 0 ≤ i) : cutL xs (some i) none = xs.drop i.toNat := by
  unfold cutL HT.sIx
  simp only [if_neg (show ¬ i < 0 by omega)]
  by_cases l : i.toNat ≤ xs.length
  · rw [Nat.min_eq_left l, List.take_of_length_le (by simp)]
  · rw [Nat.min_eq_right (by omega), List.drop_of_length_le (Nat.le_refl _), List.drop_of_length_le (by omega), List.take_nil]
/-! ### comprehensions of two clauses -/
theorem wipe_sub {sl : List (Option R)} {ws vs : List Nat} (h : ∀ v ∈ ws, v ∈ vs) : wipeS (wipeS sl ws) vs = wipeS sl vs := by
  apply List.ext_getElem?
  intro n
  by_cases hn : n ∈ vs
  · rw [wipeS_in' hn, wipeS_in' hn, wipeS_len]
  · rw [wipeS_out hn, wipeS_out hn, wipeS_out fun z => hn (h n z)]
theorem ev_varO {sl : List (Option R)} {os : List (Option Cell)} {i : Nat} {Q : D → Sx → Prop} (h : ∃ j cs, sl[i]? = some (some (.own j)) ∧ os[j]? = some (some (.lst cs)) ∧ Q (.list cs) ⟨sl.set i (some (.dat (.list cs))), os.set j none⟩) : Ev (gVar i ⟨sl, os⟩) Q := by
  obtain ⟨j, cs, e1, e2, h⟩ := h
  exact ⟨_, _, by unfold gVar; simp only [e1, e2], h⟩
theorem ed_pick {Q P : D → Prop} {xs : List D} {i : Int} (h0 : 0 ≤ i) (h1 : i < xs.length) (hp : ∀ x ∈ xs, P x) (h : ∀ x, P x → Q x) : Ed (dIx (.list xs) (.int i)) Q := by
  have hl : i.toNat < xs.length := by omega
  exact ed_ixL h0 (List.getElem?_eq_getElem hl) (h _ (hp _ (List.getElem_mem hl)))
theorem ed_pickS {Q : D → Prop} {P : Nat → Prop} {x : Str} {i : Int} (h0 : 0 ≤ i) (h1 : i < x.length) (hp : ∀ c ∈ x.cps.toList, P c) (h : ∀ c, P c → Q (ch c)) : Ed (dIx (.str x) (.int i)) Q := by
  have hl : i.toNat < x.cps.toList.length := by
    have : x.cps.toList.length = x.length := Array.length_toList
    omega
  exact ed_ixS h0 (List.getElem?_eq_getElem hl) (h _ (hp _ (List.getElem_mem hl)))
open Classical in
open Classical in
theorem ed_eq_good {Q : D → Prop} {d e : D} {m n : Nat} (g : Good m d) (k : Good n e) (q1 : d = e → Q (.bool true)) (q2 : d ≠ e → Q (.bool false)) (l1 : m ≤ 64 := by decide) (l2 : n ≤ 64 := by decide) : Ed (dEq d e) Q := by
  refine Ed.of (dEq_good g k l1 l2) ?_
  by_cases x : d = e
  · rw [decide_eq_true x]; exact q1 x
  · rw [decide_eq_false x]; exact q2 x
theorem set_get {α : Type} (l : List α) (k : Nat) (h : k < l.length) : l.set k l[k] = l := List.set_getElem_self h
/-- a loop that sets its own name alone, and what the lists hold -/
theorem eo_loopS {S : Sx} {Z : Out → Prop} {gg : D → Sx → Option Sx} {body : Sx → Option Out} {ds : List D} (k : Nat) (J : Nat → List (Option Cell) → Prop) (hk : k < S.sl.length) (h0 : J 0 S.os) (hs : ∀ i d x os, ds[i]? = some d → J i os → Es (gg d ⟨S.sl.set k x, os⟩) fun S1 => Eo (body S1) fun o => ∃ x' os', o = .nx ⟨S.sl.set k x', os'⟩ ∧ J (i + 1) os') (hz : ∀ x os, J ds.length os → Z (.nx ⟨S.sl.set k x, os⟩)) : Eo (gLoop gg body ds S) Z := by
  refine eo_loop (fun i T => ∃ x, T.sl = S.sl.set k x ∧ J i T.os) ⟨S.sl[k], (set_get _ _ hk).symm, h0⟩ ?_ ?_
  · rintro i d ⟨sl, os⟩ hd ⟨x, e, h⟩
    cases e
    obtain ⟨S1, e1, o, e2, x', os', rfl, h'⟩ := hs i d x os hd h
    exact ⟨S1, e1, _, e2, _, rfl, x', rfl, h'⟩
  · rintro ⟨sl, os⟩ ⟨x, e, h⟩
    cases e
    exact hz x os h
/-! ### comprehensions whose item changes the lists -/
/-! ### how many unlike ones -/
theorem ev_listRng1 {S : Sx} {Q : D → Sx → Prop} {g : M D} (h : Ev (g S) fun d S1 => ∃ n : Int, d = .int n ∧ -4611686018427387904 ≤ n ∧ n ≤ 16777216 ∧ Q (.list (rng 0 n.toNat)) S1) : Ev (gListRng1 g S) Q := by
  obtain ⟨ds, S1, e1, n, rfl, l1, l2, q⟩ := h
  exact ⟨_, S1, by simp only [gListRng1, e1, Option.bind_some]; rw [if_pos ⟨by omega, by omega⟩], q⟩
theorem ev_OL {sl : List (Option R)} {os : List (Option Cell)} {i : Nat} {f : D → D → Option D} {gb : M D} {Q : D → Sx → Prop} (h : ∃ j cs0, sl[i]? = some (some (.own j)) ∧ os[j]? = some (some (.lst cs0)) ∧ Ev (gb ⟨sl, os⟩) fun d S1 => ∃ cs, S1.os[j]? = some (some (.lst cs)) ∧ Ed (f (.list cs) d) fun z => ∃ b, z = .bool b ∧ Q (.bool b) S1) : Ev (gOL f i gb ⟨sl, os⟩) Q := by
  obtain ⟨j, cs0, h1, h2, d, S1, e1, cs, h3, z, e2, b, rfl, q⟩ := h
  exact ⟨_, _, by simp only [gOL, ownOf, cellOf, h1, h2, e1, h3, e2, Option.bind_some], q⟩
theorem ev_OR {S : Sx} {i : Nat} {f : D → D → Option D} {gb : M D} {Q : D → Sx → Prop} (h : Ev (gb S) fun d S1 => ∃ j cs, S1.sl[i]? = some (some (.own j)) ∧ S1.os[j]? = some (some (.lst cs)) ∧ Ed (f d (.list cs)) fun z => ∃ b, z = .bool b ∧ Q (.bool b) S1) : Ev (gOR f gb i S) Q := by
  obtain ⟨d, S1, e1, j, cs, h1, h2, z, e2, b, rfl, q⟩ := h
  exact ⟨_, _, by simp only [gOR, ownOf, cellOf, h1, h2, e1, e2, Option.bind_some], q⟩
theorem ev_rep {S : Sx} {f : D → D → Option D} {ga gb : M D} {Q : D → Sx → Prop} (h : Ev (gBin f ga gb S) fun d S1 => ∃ ds, d = .list ds ∧ Q (.list ds) S1) : Ev (gRep f ga gb S) Q := by
  obtain ⟨d, S1, e1, ds, rfl, q⟩ := h
  exact ⟨_, _, by simp only [gRep, e1, Option.bind_some], q⟩
end Fu

set_option maxHeartbeats 16000000
namespace Lw
open PySem PySem.Spec PyProof.Rows L2 RZ Fu
def g__law_reel : Sx → Option Out :=
  (qSeq (qSet 1 (gBin dPow (gC (.int 3)) (gC (.int 60)))) (qSeq (qFor (gItems (gScrSl 0 gNo (gSo (gC (.int 63))))) (sName 2) (qSet 1 (gBin dMod (gBin dAdd (gBin dAdd (gBin dMul (gVar 1) (gVar 1)) (gBin dMod (gVar 2) (gC (.int 1000000000000000003)))) (gC (.int 11))) (gBin dSub (gBin dMul (gBin dPow (gC (.int 2)) (gC (.int 64))) (gBin dPow (gC (.int 2)) (gC (.int 63)))) (gC (.int 1)))))) (qSeq (qSet 3 (gLc (gItems (gScrSl 0 gNo (gSo (gC (.int 63))))) (sName 2) (gB (gBin dGe (gVar 2) (gBin dPow (gC (.int 10)) (gC (.int 18))))) (gBin dSub (gVar 2) (gBin dPow (gC (.int 10)) (gC (.int 18)))) [2])) (qRetO (gLst (gCons (gVar 3) (gCons (gBin dAdd (gLc (gItems (gScrSl 0 gNo (gSo (gC (.int 63))))) (sName 2) gYes (gBin dMod (gVar 2) (gC (.int 1000003))) [2]) (gLst (gCons (gC (.int 41)) gNil))) (gCons (gC (.int 0)) (gCons (gVar 1) gNil)))))))))
def m__law_reel := mScrN 4 g__law_reel
def g__law_draw : Sx → Option Out :=
  (qSeq (qIf (gB (gBin dNe (gIxO 0 (gC (.int 0))) (gLst gNil))) (qSeq (qSet 2 (gBin dIx (gIxO 0 (gC (.int 0))) (gC (.int 0)))) (qSeq (qSetO 0 (gC (.int 0)) (gBin dAdd (gBin dMul (gLst (gCons (gBin dDiv (gVar 2) (gVar 1)) gNil)) (gCall dInt (gCons (gBin dGe (gVar 2) (gVar 1)) gNil))) (gSl (gIxO 0 (gC (.int 0))) (gSo (gC (.int 1))) gNo))) (qRet (gBin dMod (gVar 2) (gVar 1))))) qNx) (qSeq (qSetO 0 (gC (.int 2)) (gBin dAdd (gIxO 0 (gC (.int 2))) (gC (.int 1)))) (qSeq (qSet 3 (gBin dIx (gIxO 0 (gC (.int 1))) (gBin dMod (gIxO 0 (gC (.int 2))) (gCall dLen (gCons (gIxO 0 (gC (.int 1))) gNil))))) (qSeq (qSet 4 (gBin dAdd (gBin dAdd (gBin dMul (gIxO 0 (gC (.int 3))) (gIxO 0 (gC (.int 3)))) (gBin dMul (gBin dAdd (gVar 3) (gC (.int 7))) (gC (.int 69621)))) (gBin dMul (gIxO 0 (gC (.int 2))) (gC (.int 1000003))))) (qSeq (qSetO 0 (gC (.int 3)) (gBin dMod (gVar 4) (gBin dSub (gBin dMul (gBin dPow (gC (.int 2)) (gC (.int 64))) (gBin dPow (gC (.int 2)) (gC (.int 63)))) (gC (.int 1))))) (qRet (gBin dMod (gBin dDiv (gIxO 0 (gC (.int 3))) (gBin dPow (gC (.int 2)) (gC (.int 40)))) (gVar 1))))))))
def m__law_draw := mIO 5 g__law_draw
def g_is_whole : Sx → Option Out :=
  (qRet (gAndV (gIsi "int" (gVar 0)) (gAndV (gNotV (gIsi "bool" (gVar 0))) (gBin dGe (gVar 0) (gC (.int 0))))))
def m_is_whole := mF 1 g_is_whole
def g_is_row : Sx → Option Out :=
  (qRet (gAndV (gIsi2 "list" "tuple" (gVar 0)) (gBin dEq (gCall dLen (gCons (gVar 0) gNil)) (gVar 1))))
def m_is_row := mF 2 g_is_row
def g_is_company : Sx → Option Out :=
  (qRet (gAndV (gIsi "str" (gVar 0)) (gAndV (gBin dEq (gCall dLen (gCons (gVar 0) gNil)) (gC (.int 1))) (gBin dIn (gVar 0) (gC (.str "abcdefghijklmnopqrstuvwxyz"))))))
def m_is_company := mF 1 g_is_company
def g_is_line_of : Sx → Option Out :=
  (qSeq (qIf (gOr (gNot (gB (gCallF 2 m_is_row (gCons (gVar 1) (gCons (gC (.int 3)) gNil))))) (gNot (gB (gCallF 1 m_is_company (gCons (gBin dIx (gVar 1) (gC (.int 2))) gNil))))) (qRet (gC (.bool false))) qNx) (qRet (gCall dAll (gCons (gLc (gItems (gSl (gVar 1) gNo (gSo (gC (.int 2))))) (sName 2) gYes (gAndV (gCallF 1 m_is_whole (gCons (gVar 2) gNil)) (gBin dLt (gVar 2) (gVar 0))) [2]) gNil))))
def m_is_line_of := mF 3 g_is_line_of
def g_web_of : Sx → Option Out :=
  (qSeq (qIf (gOr (gNot (gB (gCallF 1 m_is_whole (gCons (gVar 0) gNil)))) (gNot (gB (gIsi2 "list" "tuple" (gVar 1))))) qNone qNx) (qSeq (qIf (gNot (gB (gCall dAll (gCons (gLc (gItems (gVar 1)) (sName 2) gYes (gCallF 2 m_is_line_of (gCons (gVar 0) (gCons (gVar 2) gNil))) [2]) gNil)))) qNone qNx) (qRet (gTup (gCons (gVar 0) (gCons (gCall dTuple (gCons (gLc (gItems (gVar 1)) (sName 2) gYes (gCall dTuple (gCons (gVar 2) gNil)) [2]) gNil)) gNil))))))
def m_web_of := mF 3 g_web_of
def g_need_place : Sx → Option Out :=
  (qIf (gOr (gNot (gB (gCallF 1 m_is_whole (gCons (gVar 1) gNil)))) (gB (gBin dGe (gVar 1) (gBin dIx (gVar 0) (gC (.int 0)))))) qNone qNx)
def m_need_place := mF 2 g_need_place
def g_all_ends : Sx → Option Out :=
  (qRet (gLc2 (gRng1 (gCons (gCall dLen (gCons (gBin dIx (gVar 0) (gC (.int 1))) gNil)) gNil)) (sName 1) gYes (gRng1 (gCons (gC (.int 2)) gNil)) (sName 2) gYes (gTup (gCons (gVar 1) (gCons (gVar 2) gNil))) [1, 2] [2]))
def m_all_ends := mF 3 g_all_ends
def g_place_of : Sx → Option Out :=
  (qRet (gBin dIx (gBin dIx (gBin dIx (gVar 0) (gC (.int 1))) (gBin dIx (gVar 1) (gC (.int 0)))) (gBin dIx (gVar 1) (gC (.int 1)))))
def m_place_of := mF 2 g_place_of
def g_ends_at : Sx → Option Out :=
  (qSeq (qDrop (gCallF 2 m_need_place (gCons (gVar 0) (gCons (gVar 1) gNil)))) (qRet (gLc (gItems (gCallF 1 m_all_ends (gCons (gVar 0) gNil))) (sName 2) (gB (gBin dEq (gCallF 2 m_place_of (gCons (gVar 0) (gCons (gVar 2) gNil))) (gVar 1))) (gVar 2) [2])))
def m_ends_at := mF 3 g_ends_at
def g_hangs_on : Sx → Option Out :=
  (qSeq (qSet 3 (gLc2 (gItems (gVar 1)) (sName 4) gYes (gItems (gSl (gBin dIx (gBin dIx (gVar 0) (gC (.int 1))) (gVar 4)) gNo (gSo (gC (.int 2))))) (sName 5) gYes (gVar 5) [4, 5] [5])) (qRet (gCall dAny (gCons (gLc (gItems (gSl (gBin dIx (gBin dIx (gVar 0) (gC (.int 1))) (gVar 2)) gNo (gSo (gC (.int 2))))) (sName 5) gYes (gBin dIn (gVar 5) (gVar 3)) [5]) gNil))))
def m_hangs_on := mF 6 g_hangs_on
def g_parts_of : Sx → Option Out :=
  (qSeq (qOwn 1 (gLst gNil)) (qSeq (qSet 2 (gListRng1 (gCall dLen (gCons (gBin dIx (gVar 0) (gC (.int 1))) gNil)))) (qSeq (gWhile (gB (gBin dNe (gVar 2) (gLst gNil))) (qSeq (qOwn 3 (gLst gNil)) (qSeq (qSet 4 (gSl (gVar 2) gNo (gSo (gC (.int 1))))) (qSeq (gWhile (gB (gBin dNe (gVar 4) (gLst gNil))) (qSeq (qAugL 3 (gVar 4)) (qSeq (qSet 2 (gLc (gItems (gVar 2)) (sName 5) (gB (gBin dNotIn (gVar 5) (gVar 4))) (gVar 5) [5])) (qSet 4 (gViewN (gLc (gItems (gVar 2)) (sName 5) (gB (gCallF 3 m_hangs_on (gCons (gVar 0) (gCons (gVar 3) (gCons (gVar 5) gNil))))) (gVar 5) [5]))))) 100000) (qDrop (gApp 1 (gCall dSorted (gCons (gVar 3) gNil))))))) 100000) (qRet (gVar 1)))))
def m_parts_of := mF 6 g_parts_of
def g_need_company : Sx → Option Out :=
  (qIf (gNot (gB (gCallF 1 m_is_company (gCons (gVar 0) gNil)))) qNone qNx)
def m_need_company := mF 1 g_need_company
def g_kept : Sx → Option Out :=
  (qRet (gCallF 2 m_web_of (gCons (gBin dIx (gVar 0) (gC (.int 0))) (gCons (gBin dIx (gVar 0) (gC (.int 1))) gNil))))
def m_kept := mF 1 g_kept
def g_with_line : Sx → Option Out :=
  (qSeq (qDrop (gCallF 2 m_need_place (gCons (gVar 0) (gCons (gVar 1) gNil)))) (qSeq (qDrop (gCallF 2 m_need_place (gCons (gVar 0) (gCons (gVar 2) gNil)))) (qSeq (qDrop (gCallF 1 m_need_company (gCons (gVar 3) gNil))) (qSeq (qAsg (sTup 2 (sCons (sName 4) (sCons (sName 5) sNil))) (gCallF 1 m_kept (gCons (gVar 0) gNil))) (qRet (gTup (gCons (gVar 4) (gCons (gBin dAdd (gVar 5) (gTup (gCons (gTup (gCons (gVar 1) (gCons (gVar 2) (gCons (gVar 3) gNil)))) gNil))) gNil))))))))
def m_with_line := mF 6 g_with_line
def g_need_line : Sx → Option Out :=
  (qIf (gOr (gNot (gB (gCallF 1 m_is_whole (gCons (gVar 1) gNil)))) (gB (gBin dGe (gVar 1) (gCall dLen (gCons (gBin dIx (gVar 0) (gC (.int 1))) gNil))))) qNone qNx)
def m_need_line := mF 2 g_need_line
def g_without_line : Sx → Option Out :=
  (qSeq (qDrop (gCallF 2 m_need_line (gCons (gVar 0) (gCons (gVar 1) gNil)))) (qSeq (qAsg (sTup 2 (sCons (sName 2) (sCons (sName 3) sNil))) (gCallF 1 m_kept (gCons (gVar 0) gNil))) (qRet (gTup (gCons (gVar 2) (gCons (gBin dAdd (gSl (gVar 3) gNo (gSo (gVar 1))) (gSl (gVar 3) (gSo (gBin dAdd (gVar 1) (gC (.int 1)))) gNo)) gNil))))))
def m_without_line := mF 4 g_without_line
def g_painted : Sx → Option Out :=
  (qSeq (qDrop (gCallF 2 m_need_line (gCons (gVar 0) (gCons (gVar 1) gNil)))) (qSeq (qDrop (gCallF 1 m_need_company (gCons (gVar 2) gNil))) (qSeq (qAsg (sTup 2 (sCons (sName 3) (sCons (sName 4) sNil))) (gCallF 1 m_kept (gCons (gVar 0) gNil))) (qRet (gTup (gCons (gVar 3) (gCons (gBin dAdd (gBin dAdd (gSl (gVar 4) gNo (gSo (gVar 1))) (gTup (gCons (gBin dAdd (gSl (gBin dIx (gVar 4) (gVar 1)) gNo (gSo (gC (.int 2)))) (gTup (gCons (gVar 2) gNil))) gNil))) (gSl (gVar 4) (gSo (gBin dAdd (gVar 1) (gC (.int 1)))) gNo)) gNil)))))))
def m_painted := mF 5 g_painted
def g_merged : Sx → Option Out :=
  (qSeq (qDrop (gCallF 1 m_need_company (gCons (gVar 1) gNil))) (qSeq (qDrop (gCallF 1 m_need_company (gCons (gVar 2) gNil))) (qSeq (qAsg (sTup 2 (sCons (sName 3) (sCons (sName 4) sNil))) (gCallF 1 m_kept (gCons (gVar 0) gNil))) (qRet (gTup (gCons (gVar 3) (gCons (gCall dTuple (gCons (gLc (gItems (gVar 4)) (sName 5) gYes (gBin dAdd (gSl (gVar 5) gNo (gSo (gC (.int 2)))) (gTup (gCons (gIf (gB (gBin dEq (gBin dIx (gVar 5) (gC (.int 2))) (gVar 1))) (gVar 2) (gBin dIx (gVar 5) (gC (.int 2)))) gNil))) [5]) gNil)) gNil)))))))
def m_merged := mF 6 g_merged
def g_is_end : Sx → Option Out :=
  (qSeq (qIf (gOr (gNot (gB (gCallF 2 m_is_row (gCons (gVar 1) (gCons (gC (.int 2)) gNil))))) (gOr (gNot (gB (gCallF 1 m_is_whole (gCons (gBin dIx (gVar 1) (gC (.int 0))) gNil)))) (gNot (gB (gCallF 1 m_is_whole (gCons (gBin dIx (gVar 1) (gC (.int 1))) gNil)))))) (qRet (gC (.bool false))) qNx) (qRet (gAndV (gBin dLt (gBin dIx (gVar 1) (gC (.int 0))) (gCall dLen (gCons (gBin dIx (gVar 0) (gC (.int 1))) gNil))) (gBin dLt (gBin dIx (gVar 1) (gC (.int 1))) (gC (.int 2))))))
def m_is_end := mF 2 g_is_end
def g_need_end : Sx → Option Out :=
  (qSeq (qIf (gNot (gB (gCallF 2 m_is_end (gCons (gVar 0) (gCons (gVar 1) gNil))))) qNone qNx) (qRet (gTup (gCons (gBin dIx (gVar 1) (gC (.int 0))) (gCons (gBin dIx (gVar 1) (gC (.int 1))) gNil)))))
def m_need_end := mF 2 g_need_end
def g_loosened : Sx → Option Out :=
  (qSeq (qAsg (sTup 2 (sCons (sName 2) (sCons (sName 3) sNil))) (gCallF 2 m_need_end (gCons (gVar 0) (gCons (gVar 1) gNil)))) (qSeq (qAsg (sTup 2 (sCons (sName 4) (sCons (sName 5) sNil))) (gCallF 1 m_kept (gCons (gVar 0) gNil))) (qSeq (qSet 6 (gLc (gRng1 (gCons (gC (.int 2)) gNil)) (sName 7) gYes (gIf (gB (gBin dEq (gVar 7) (gVar 3))) (gVar 4) (gBin dIx (gBin dIx (gVar 5) (gVar 2)) (gVar 7))) [7])) (qRet (gTup (gCons (gBin dAdd (gVar 4) (gC (.int 1))) (gCons (gBin dAdd (gBin dAdd (gSl (gVar 5) gNo (gSo (gVar 2))) (gTup (gCons (gTup (gCons (gBin dIx (gVar 6) (gC (.int 0))) (gCons (gBin dIx (gVar 6) (gC (.int 1))) (gCons (gBin dIx (gBin dIx (gVar 5) (gVar 2)) (gC (.int 2))) gNil)))) gNil))) (gSl (gVar 5) (gSo (gBin dAdd (gVar 2) (gC (.int 1)))) gNo)) gNil)))))))
def m_loosened := mF 8 g_loosened
def g__law_net_k05 : Sx → Option Out :=
  (qSeq (qSet 2 (gLst (gCons (gIO 0 1 m__law_draw (gCons (gC (.int 4)) gNil)) (gCons (gBin dAdd (gC (.int 1)) (gIO 0 1 m__law_draw (gCons (gC (.int 4)) gNil))) (gCons (gBin dAdd (gC (.int 2)) (gIO 0 1 m__law_draw (gCons (gC (.int 7)) gNil))) (gCons (gIO 0 1 m__law_draw (gCons (gC (.int 25)) gNil)) gNil)))))) (qSeq (qSet 3 (gBin dIx (gVar 2) (gIO 0 1 m__law_draw (gCons (gC (.int 4)) gNil)))) (qSeq (qSet 4 (gBin dIx (gLst (gCons (gIO 0 1 m__law_draw (gCons (gC (.int 9)) gNil)) (gCons (gIO 0 1 m__law_draw (gCons (gC (.int 16)) gNil)) (gCons (gIO 0 1 m__law_draw (gCons (gBin dAdd (gVar 1) (gC (.int 1))) gNil)) gNil)))) (gIO 0 1 m__law_draw (gCons (gC (.int 3)) gNil)))) (qSeq (qSet 5 (gBin dIx (gLst (gCons (gC (.str "a")) (gCons (gC (.str "ab")) (gCons (gC (.str "aab")) (gCons (gC (.str "abc")) (gCons (gC (.str "abcdxyz")) gNil)))))) (gIO 0 1 m__law_draw (gCons (gC (.int 5)) gNil)))) (qSeq (qSet 6 (gBin dAdd (gC (.int 1)) (gIO 0 1 m__law_draw (gCons (gCall dMax2 (gCons (gC (.int 1)) (gCons (gVar 3) gNil))) gNil)))) (qSeq (qOwn 7 (gLst gNil)) (qSeq (qFor (gRng1 (gCons (gBin dMul (gCall dMin2 (gCons (gVar 4) (gCons (gVar 1) gNil))) (gCall dInt (gCons (gBin dGt (gVar 3) (gC (.int 0))) gNil))) gNil)) (sName 8) (qDrop (gApp 7 (gTup (gCons (gIO 0 1 m__law_draw (gCons (gVar 6) gNil)) (gCons (gIO 0 1 m__law_draw (gCons (gVar 6) gNil)) (gCons (gBin dIx (gVar 5) (gIO 0 1 m__law_draw (gCons (gCall dLen (gCons (gVar 5) gNil)) gNil))) gNil))))))) (qRet (gTup (gCons (gVar 3) (gCons (gCall dTuple (gCons (gVar 7) gNil)) gNil)))))))))))
def m__law_net_k05 := mIO 9 g__law_net_k05
def g__law_touching : Sx → Option Out :=
  (qRet (gLc (gItems (gVar 1)) (sName 3) (gB (gBin dNe (gLc (gItems (gCallF 2 m_ends_at (gCons (gVar 0) (gCons (gVar 2) gNil)))) (sTup 2 (sCons (sName 4) (sCons (sName 5) sNil))) (gB (gBin dIn (gVar 4) (gVar 3))) (gVar 4) [4, 5]) (gLst gNil))) (gVar 3) [3]))
def m__law_touching := mF 6 g__law_touching
def g__law_right_k07 : Sx → Option Out :=
  (qSeq (qAsg (sTup 2 (sCons (sName 2) (sCons (sName 3) sNil))) (gVar 1)) (qSeq (qSet 4 (gCallF 1 m_parts_of (gCons (gVar 1) gNil))) (qSeq (qIf (gOr (gB (gBin dNe (gCall dSorted (gCons (gCall dSumL (gCons (gVar 4) (gCons (gLst gNil) gNil))) gNil)) (gListRng1 (gCall dLen (gCons (gVar 3) gNil))))) (gB (gBin dNe (gVar 4) (gCall dSorted (gCons (gVar 4) gNil))))) (qRet (gC (.bool false))) qNx) (qSeq (qPar 5 6 (gCons (gIO 0 1 m__law_draw (gCons (gVar 2) gNil)) (gCons (gIO 0 1 m__law_draw (gCons (gVar 2) gNil)) gNil))) (qSeq (qSet 7 (gCallF 3 m__law_touching (gCons (gVar 1) (gCons (gVar 4) (gCons (gVar 5) gNil))))) (qSeq (qSet 7 (gBin dAdd (gVar 7) (gLc (gItems (gCallF 3 m__law_touching (gCons (gVar 1) (gCons (gVar 4) (gCons (gVar 6) gNil))))) (sName 13) (gB (gBin dNotIn (gVar 13) (gVar 7))) (gVar 13) [13]))) (qSeq (qSet 8 (gCallF 1 m_parts_of (gCons (gCallF 4 m_with_line (gCons (gVar 1) (gCons (gVar 5) (gCons (gVar 6) (gCons (gBin dIx (gC (.str "abz")) (gIO 0 1 m__law_draw (gCons (gC (.int 3)) gNil))) gNil))))) gNil))) (qSeq (qSet 9 (gLc (gItems (gVar 4)) (sName 13) (gB (gBin dNotIn (gVar 13) (gVar 7))) (gVar 13) [13])) (qSeq (qIf (gB (gBin dNe (gVar 8) (gCall dSorted (gCons (gBin dAdd (gVar 9) (gLst (gCons (gCall dSorted (gCons (gBin dAdd (gCall dSumL (gCons (gVar 7) (gCons (gLst gNil) gNil))) (gLst (gCons (gCall dLen (gCons (gVar 3) gNil)) gNil))) gNil)) gNil))) gNil)))) (qRet (gC (.bool false))) qNx) (qSeq (qIf (gB (gBin dEq (gVar 3) (gTup gNil))) (qRet (gC (.bool true))) qNx) (qSeq (qSet 10 (gIO 0 1 m__law_draw (gCons (gCall dLen (gCons (gVar 3) gNil)) gNil))) (qSeq (qIf (gOr (gB (gBin dNe (gCallF 1 m_parts_of (gCons (gCallF 3 m_painted (gCons (gVar 1) (gCons (gVar 10) (gCons (gC (.str "q")) gNil)))) gNil)) (gVar 4))) (gB (gBin dNe (gCallF 1 m_parts_of (gCons (gCallF 3 m_merged (gCons (gVar 1) (gCons (gC (.str "a")) (gCons (gC (.str "b")) gNil)))) gNil)) (gVar 4)))) (qRet (gC (.bool false))) qNx) (qSeq (qSet 11 (gBin dSub (gCall dLen (gCons (gCallF 1 m_parts_of (gCons (gCallF 2 m_loosened (gCons (gVar 1) (gCons (gTup (gCons (gVar 10) (gCons (gIO 0 1 m__law_draw (gCons (gC (.int 2)) gNil)) gNil))) gNil))) gNil)) gNil)) (gCall dLen (gCons (gVar 4) gNil)))) (qSeq (qSet 12 (gBin dSub (gCall dLen (gCons (gCallF 1 m_parts_of (gCons (gCallF 2 m_without_line (gCons (gVar 1) (gCons (gVar 10) gNil))) gNil)) gNil)) (gCall dLen (gCons (gVar 4) gNil)))) (qRet (gAndV (gBin dIn (gVar 11) (gLst (gCons (gC (.int 0)) (gCons (gC (.int 1)) gNil)))) (gBin dIn (gVar 12) (gLst (gCons (gUn dNeg (gC (.int 1))) (gCons (gC (.int 0)) (gCons (gC (.int 1)) gNil)))))))))))))))))))))
def m__law_right_k07 := mIO 14 g__law_right_k07
def g__law_draw_k15 : Sx → Option Out :=
  (qSeq (qIf (gB (gBin dGt (gIxO 0 (gC (.int 0))) (gC (.int 0)))) (qSeq (qSet 2 (gBin dMod (gIxO 0 (gC (.int 0))) (gVar 1))) (qSeq (qSetO 0 (gC (.int 0)) (gBin dDiv (gIxO 0 (gC (.int 0))) (gVar 1))) (qRet (gVar 2)))) qNx) (qSeq (qSetO 0 (gC (.int 2)) (gBin dAdd (gIxO 0 (gC (.int 2))) (gC (.int 1)))) (qSeq (qSet 3 (gBin dMod (gBin dMul (gIxO 0 (gC (.int 1))) (gIxO 0 (gC (.int 1)))) (gC (.int 2305843009213693951)))) (qSeq (qSetO 0 (gC (.int 1)) (gBin dMod (gBin dAdd (gBin dAdd (gVar 3) (gBin dMul (gBin dMul (gC (.int 7919)) (gIxO 0 (gC (.int 2)))) (gIxO 0 (gC (.int 1))))) (gC (.int 104729))) (gC (.int 2305843009213693951)))) (qRet (gBin dMod (gBin dDiv (gIxO 0 (gC (.int 1))) (gC (.int 65537))) (gVar 1)))))))
def m__law_draw_k15 := mIO 4 g__law_draw_k15
end Lw

set_option maxHeartbeats 4000000
namespace Fu
open PySem
/-! ### comprehensions over typed items -/
theorem turns_typed {α : Type} {gg : D → Sx → Option Sx} {gt : M Bool} {ge : M D} {vs : List Nat} {b : α → Bool} {enc f : α → D} {w : List (Option R)} {os : List (Option Cell)} :
    ∀ (xs : List α) (sl : List (Option R)), wipeS sl vs = w → (∀ x ∈ xs, ∃ sl1, gg (enc x) ⟨w, os⟩ = some ⟨sl1, os⟩ ∧ wipeS sl1 vs = w ∧ gt ⟨sl1, os⟩ = some (b x, ⟨sl1, os⟩) ∧ (b x = true → ge ⟨sl1, os⟩ = some (f x, ⟨sl1, os⟩))) →
      ∃ sl', wipeS sl' vs = w ∧ gTurns gg gt ge vs (xs.map enc) ⟨sl, os⟩ = some ((xs.filter b).map f, ⟨sl', os⟩)
  | [], sl, e, _ => ⟨sl, e, rfl⟩
  | x :: xs, sl, e, h => by
    obtain ⟨sl1, h1, h2, h3, h4⟩ := h x List.mem_cons_self
    obtain ⟨sl', e', ih⟩ := turns_typed xs sl1 h2 fun y hy => h y (List.mem_cons_of_mem _ hy)
    refine ⟨sl', e', ?_⟩
    rw [List.map_cons, gTurns]
    simp only [e, h1, h3, Option.bind_some]
    cases hb : b x with
    | true => simp [h4 hb, ih, hb]
    | false => simp [ih, hb]
theorem ev_lcX {α : Type} {S : Sx} {Q : D → Sx → Prop} {gi : M (List D)} {gg : D → Sx → Option Sx} {gt : M Bool} {ge : M D} {vs : List Nat} {xs : List α} {enc : α → D} {b : α → Bool} {g : α → D}
    (h : Ev (gi S) fun ds S1 => ds = xs.map enc ∧ (∀ x ∈ xs, Es (gg (enc x) ⟨wipeS S1.sl vs, S1.os⟩) fun S2 => wipeS S2.sl vs = wipeS S1.sl vs ∧ S2.os = S1.os ∧ Ev (gt S2) fun c S3 => S3 = S2 ∧ c = b x ∧ (b x = true → Ev (ge S2) fun e S4 => e = g x ∧ S4 = S2)) ∧ Q (.list ((xs.filter b).map g)) S1) : Ev (gLc gi gg gt ge vs S) Q := by
  obtain ⟨ds, ⟨sl1, os1⟩, e1, rfl, h1, q⟩ := h
  obtain ⟨sl', e', ht⟩ := turns_typed (gg := gg) (gt := gt) (ge := ge) (b := b) (enc := enc) (f := g) xs sl1 rfl fun d hd => by
    obtain ⟨⟨sl2, os2⟩, e2, e3, e4, c, S3, e5, e6, e7, e8⟩ := h1 d hd
    cases e4
    subst e7 e6
    exact ⟨sl2, e2, e3, e5, fun hb => (e8 hb).eq⟩
  refine ⟨_, _, ?_, q⟩
  unfold gLc
  rw [e1]
  simp only [Option.bind_some, ht, backS_same e']
theorem ev_mapX {α : Type} {S : Sx} {Q : D → Sx → Prop} {gi : M (List D)} {gg : D → Sx → Option Sx} {ge : M D} {vs : List Nat} {xs : List α} {enc : α → D} {g : α → D}
    (h : Ev (gi S) fun ds S1 => ds = xs.map enc ∧ (∀ x ∈ xs, Es (gg (enc x) ⟨wipeS S1.sl vs, S1.os⟩) fun S2 => wipeS S2.sl vs = wipeS S1.sl vs ∧ S2.os = S1.os ∧ Ev (ge S2) fun e S4 => e = g x ∧ S4 = S2) ∧ Q (.list (xs.map g)) S1) : Ev (gLc gi gg gYes ge vs S) Q := by
  refine ev_lcX (xs := xs) (enc := enc) (b := fun _ => true) (g := g) ?_
  refine h.mono fun ds S1 h => ⟨h.1, fun d hd => ?_, by rw [List.filter_eq_self.mpr fun _ _ => rfl]; exact h.2.2⟩
  obtain ⟨S2, e2, e3, e4, e5⟩ := h.2.1 d hd
  exact ⟨S2, e2, e3, e4, ev_yes ⟨rfl, rfl, fun _ => e5⟩⟩
/-- two clauses, typed -/
theorem turns2_typed {α β : Type} {gg : D → Sx → Option Sx} {gt : M Bool} {gi1 : M (List D)} {gg1 : D → Sx → Option Sx} {gt1 : M Bool} {ge : M D} {vs vs1 : List Nat} {b : α → Bool} {enc : α → D} {es : α → List β} {enc1 : α → β → D} {b1 : α → β → Bool} {f : α → β → D} {w : List (Option R)} {os : List (Option Cell)} (hv : ∀ v ∈ vs1, v ∈ vs) :
    ∀ (xs : List α) (sl : List (Option R)), wipeS sl vs = w → (∀ d ∈ xs, ∃ sl1, gg (enc d) ⟨w, os⟩ = some ⟨sl1, os⟩ ∧ wipeS sl1 vs = w ∧ gt ⟨sl1, os⟩ = some (b d, ⟨sl1, os⟩) ∧ (b d = true → gi1 ⟨sl1, os⟩ = some ((es d).map (enc1 d), ⟨sl1, os⟩) ∧
        ∀ e ∈ es d, ∃ sl2, gg1 (enc1 d e) ⟨wipeS sl1 vs1, os⟩ = some ⟨sl2, os⟩ ∧ wipeS sl2 vs1 = wipeS sl1 vs1 ∧ gt1 ⟨sl2, os⟩ = some (b1 d e, ⟨sl2, os⟩) ∧ (b1 d e = true → ge ⟨sl2, os⟩ = some (f d e, ⟨sl2, os⟩)))) →
      ∃ sl', wipeS sl' vs = w ∧ gTurns2 gg gt gi1 gg1 gt1 ge vs vs1 (xs.map enc) ⟨sl, os⟩ = some ((xs.filter b).flatMap (fun d => ((es d).filter (b1 d)).map (f d)), ⟨sl', os⟩)
  | [], sl, e, _ => ⟨sl, e, rfl⟩
  | d :: ds, sl, e, h => by
    obtain ⟨sl1, h1, h2, h3, h4⟩ := h d List.mem_cons_self
    have hr : ∀ d ∈ ds, _ := fun x hx => h x (List.mem_cons_of_mem _ hx)
    cases hb : b d with
    | true =>
      obtain ⟨h5, h6⟩ := h4 hb
      obtain ⟨sl3, e3, h7⟩ := turns_typed (enc := enc1 d) (es d) sl1 rfl h6
      have e4 : wipeS sl3 vs = w := by rw [← wipe_sub hv, e3, wipe_sub hv, h2]
      obtain ⟨sl', e', ih⟩ := turns2_typed hv ds sl3 e4 hr
      refine ⟨sl', e', ?_⟩
      rw [List.map_cons, gTurns2]
      simp only [e, h1, h3, Option.bind_some, hb, if_true, h5, h7, ih, List.filter_cons_of_pos hb, List.flatMap_cons]
    | false =>
      obtain ⟨sl', e', ih⟩ := turns2_typed hv ds sl1 h2 hr
      refine ⟨sl', e', ?_⟩
      rw [List.map_cons, gTurns2]
      simp [e, h1, h3, hb, ih]
theorem ev_lc2X {α β : Type} {S : Sx} {Q : D → Sx → Prop} {gi : M (List D)} {gg : D → Sx → Option Sx} {gt : M Bool} {gi1 : M (List D)} {gg1 : D → Sx → Option Sx} {gt1 : M Bool} {ge : M D} {vs vs1 : List Nat} {xs : List α} {enc : α → D} {b : α → Bool} {es : α → List β} {enc1 : α → β → D} {b1 : α → β → Bool} {f : α → β → D} (hv : ∀ v ∈ vs1, v ∈ vs)
    (h : Ev (gi S) fun ds S1 => ds = xs.map enc ∧ (∀ d ∈ xs, Es (gg (enc d) ⟨wipeS S1.sl vs, S1.os⟩) fun S2 => wipeS S2.sl vs = wipeS S1.sl vs ∧ S2.os = S1.os ∧ Ev (gt S2) fun c S3 => S3 = S2 ∧ c = b d ∧ (b d = true → Ev (gi1 S2) fun ys S4 => (ys = (es d).map (enc1 d) ∧ S4 = S2) ∧
      ∀ e ∈ es d, Es (gg1 (enc1 d e) ⟨wipeS S2.sl vs1, S2.os⟩) fun S5 => wipeS S5.sl vs1 = wipeS S2.sl vs1 ∧ S5.os = S2.os ∧ Ev (gt1 S5) fun c S6 => S6 = S5 ∧ c = b1 d e ∧ (b1 d e = true → Ev (ge S5) fun z S7 => z = f d e ∧ S7 = S5))) ∧
      ((xs.filter b).flatMap (fun d => ((es d).filter (b1 d)).map (f d))).length ≤ 16777216 ∧ Q (.list ((xs.filter b).flatMap (fun d => ((es d).filter (b1 d)).map (f d)))) S1) : Ev (gLc2 gi gg gt gi1 gg1 gt1 ge vs vs1 S) Q := by
  obtain ⟨ds, ⟨sl1, os1⟩, e1, rfl, h1, l, q⟩ := h
  obtain ⟨sl', e', ht⟩ := turns2_typed (gg := gg) (gt := gt) (gi1 := gi1) (gg1 := gg1) (gt1 := gt1) (ge := ge) (b := b) (enc := enc) (es := es) (enc1 := enc1) (b1 := b1) (f := f) hv xs sl1 rfl fun d hd => by
    obtain ⟨⟨sl2, os2⟩, e2, e3, e4, c, S3, e5, e6, e7, e8⟩ := h1 d hd
    cases e4
    subst e7 e6
    refine ⟨sl2, e2, e3, e5, fun hb => ?_⟩
    obtain ⟨ys, S4, e9, ⟨rfl, rfl⟩, e10⟩ := e8 hb
    refine ⟨e9, fun e he => ?_⟩
    obtain ⟨⟨sl5, os5⟩, f2, f3, f4, c, S6, f5, f6, f7, f8⟩ := e10 e he
    cases f4
    subst f7 f6
    exact ⟨sl5, f2, f3, f5, fun hb => (f8 hb).eq⟩
  refine ⟨_, _, ?_, q⟩
  unfold gLc2
  rw [e1]
  simp only [Option.bind_some, ht, line_eq, if_pos l, backS_same e']
theorem rng0 (n : Nat) : rng 0 n = (List.range n).map fun i : Nat => .int (i : Int) := by
  unfold rng; simp

/-! ### lists or tuples -/
def seqOf : D → Option (List D)
  | .list xs => some xs
  | .tuple xs => some xs
  | _ => none
def Sq (d : D) (xs : List D) : Prop := d = .list xs ∨ d = .tuple xs
theorem sq_l (xs : List D) : Sq (.list xs) xs := .inl rfl
theorem sq_t (xs : List D) : Sq (.tuple xs) xs := .inr rfl
theorem sq_of {d : D} {xs : List D} (h : seqOf d = some xs) : Sq d xs := by
  cases d <;> simp [seqOf] at h
  · exact .inl (by rw [h])
  · exact .inr (by rw [h])
theorem Sq.of {d : D} {xs : List D} (h : Sq d xs) : seqOf d = some xs := by rcases h with rfl | rfl <;> rfl
theorem Sq.isi {d : D} {xs : List D} (h : Sq d xs) : (isT "list" d || isT "tuple" d) = true := by rcases h with rfl | rfl <;> rfl
theorem isi_seq (d : D) : (isT "list" d || isT "tuple" d) = (seqOf d).isSome := by cases d <;> rfl
section
variable {Q : D → Prop} {d x : D} {xs : List D} {i : Int}
theorem ed_ixQ (s : Sq d xs) (h0 : 0 ≤ i) (e : xs[i.toNat]? = some x) (h : Q x) : Ed (dIx d (.int i)) Q := by
  rcases s with rfl | rfl
  · exact ed_ixL h0 e h
  · exact ed_ixT h0 e h
theorem ed_lenQ (s : Sq d xs) (h : Q (.int xs.length)) : Ed (dLen [d]) Q := by rcases s with rfl | rfl <;> exact ⟨_, rfl, h⟩
theorem ed_itQ {Q : List D → Prop} (s : Sq d xs) (h : Q xs) : Ed (itemsOf d) Q := by rcases s with rfl | rfl <;> exact ⟨_, rfl, h⟩
theorem ed_slQ {lo hi : Option Int} (s : Sq d xs) (h : ∀ z, Sq z (cutL xs lo hi) → Q z) : Ed (dSl d lo hi) Q := by
  rcases s with rfl | rfl
  · exact ⟨_, rfl, h _ (sq_l _)⟩
  · exact ⟨_, rfl, h _ (sq_t _)⟩
theorem ed_tupQ (s : Sq d xs) (h : Q (.tuple xs)) : Ed (dTuple [d]) Q := by rcases s with rfl | rfl <;> exact ⟨_, rfl, h⟩
end
theorem all_mapX {α : Type} (f : α → Bool) (xs : List α) {Q : D → Prop} (h : Q (.bool (xs.all f))) : Ed (dAll [.list (xs.map fun a => .bool (f a))]) Q := ⟨_, all_map f xs, h⟩
theorem any_map {α : Type} (f : α → Bool) (xs : List α) {Q : D → Prop} (h : Q (.bool (xs.any f))) : Ed (dAny [.list (xs.map fun a => .bool (f a))]) Q := ⟨_, by
  simp only [dAny, allBools_fn, Option.bind_some]; rw [List.any_map]; rfl, h⟩
/-! ### looks -/
theorem ev_viewN {S : Sx} {g : M D} {Q : D → Sx → Prop} (h : Ev (g (sealAll S)) fun d _ => ∃ ds, d = .list ds ∧ hardDs ds = true ∧ Q (.list ds) S) : Ev (gViewN g S) Q := by
  obtain ⟨d, S1, e, ds, rfl, hz, q⟩ := h
  exact ⟨_, S, by simp only [gViewN, e, Option.bind_some, hz, if_true], q⟩
theorem sealS_none (os : List (Option Cell)) : sealS os none = none := rfl
theorem sealS_dat (os : List (Option Cell)) (d : D) : sealS os (some (.dat d)) = some (.dat d) := rfl
theorem sealS_scr (os : List (Option Cell)) (d : List Int) : sealS os (some (.scr d)) = some (.scr d) := rfl
def sealC (os : List (Option Cell)) : Option (Option Cell) → Option R
  | some (some (.lst ds)) => some (.dat (.list ds))
  | some (some (.lR rs)) => ((mapO (snapR os 7) rs).map .list).map .dat
  | _ => none
theorem sealS_own (os : List (Option Cell)) (j : Nat) : sealS os (some (.own j)) = sealC os os[j]? := by
  simp only [sealS, snapR]
  generalize os[j]? = c
  rcases c with _ | _ | c
  · rfl
  · rfl
  · cases c <;> rfl
theorem sealC_lst (os : List (Option Cell)) (ds : List D) : sealC os (some (some (.lst ds))) = some (.dat (.list ds)) := rfl
theorem sealAll_mk {sl sl' : List (Option R)} {os os' : List (Option Cell)} (h : sl.map (sealS os) = sl') (h2 : os.map (fun _ => none) = os') : sealAll ⟨sl, os⟩ = ⟨sl', os'⟩ := by unfold sealAll; rw [h, h2]
theorem hards_iff {ds : List D} : hardDs ds = true ↔ ∀ d ∈ ds, hardD d = true := by
  induction ds with
  | nil => simp [hardDs]
  | cons d ds ih => rw [hardDs, Bool.and_eq_true, ih]; simp
theorem hards_map {α : Type} {f : α → D} {xs : List α} (h : ∀ x, hardD (f x) = true) : hardDs (xs.map f) = true := hards_iff.mpr fun d hd => by obtain ⟨n, _, rfl⟩ := List.mem_map.mp hd; exact h n
end Fu

set_option maxHeartbeats 4000000
namespace Lw
open PySem Fu
local macro_rules | `(tactic| walk_at "e1") => `(tactic| first
  | with_reducible refine eo_seq ?_ | (with_reducible refine then_nx' ?_; refine ⟨?_, ?_, ?_⟩; rotate_left; · (try dsimp only [List.set, List.length_cons, List.length_nil, List.cons_append, List.nil_append, Nat.zero_add, Nat.reduceAdd]); exact rfl) | with_reducible refine then_rt ?_ | with_reducible refine eo_if ?_ | with_reducible refine eo_ret ?_ | with_reducible refine eo_set ?_ | with_reducible refine eo_asg ?_ | with_reducible refine eo_drop ?_ | with_reducible refine eo_nx ?_ | with_reducible refine eo_par ?_ | with_reducible refine eo_own ?_ | with_reducible refine eo_retN ?_ | with_reducible refine eo_for ?_ | with_reducible refine eo_retO ?_
  | with_reducible refine ev_c ?_ | (with_reducible refine ev_var ?_; refine ⟨_, rfl, ?_⟩) | with_reducible refine ev_bin ?_ | with_reducible refine ev_un ?_ | with_reducible refine ev_nil ?_ | with_reducible refine ev_cons ?_
  | with_reducible refine ev_tup ?_ | with_reducible refine ev_lst ?_ | with_reducible refine ev_call ?_ | with_reducible refine ev_callF ?_ | with_reducible refine ev_isi ?_ | with_reducible refine ev_isi2 ?_ | with_reducible refine ev_andV ?_ | with_reducible refine ev_orV ?_ | with_reducible refine ev_notV ?_
  | with_reducible refine ev_B ?_ | with_reducible refine ev_and ?_ | with_reducible refine ev_or ?_ | with_reducible refine ev_not ?_ | with_reducible refine ev_yes ?_ | with_reducible refine ev_if ?_ | with_reducible refine ev_no ?_ | with_reducible refine ev_so ?_ | with_reducible refine ev_sl ?_ | with_reducible refine ev_items ?_
  | (with_reducible refine ev_ixO ?_; refine ⟨_, _, rfl, rfl, ?_⟩) | (with_reducible refine ev_varO ?_; refine ⟨_, _, rfl, rfl, ?_⟩) | (with_reducible refine ev_lenO ?_; refine ⟨_, _, rfl, rfl, ?_⟩) | (with_reducible refine ev_scrSl ?_; refine ⟨_, rfl, ?_⟩) | (with_reducible refine ev_scrLen ?_; refine ⟨_, rfl, ?_⟩) | (with_reducible refine ev_callScr ?_; refine ⟨_, rfl, ?_⟩) | (with_reducible refine ev_OL ?_; refine ⟨_, _, rfl, rfl, ?_⟩) | with_reducible refine ev_OR ?_ | with_reducible refine ev_rep ?_ | with_reducible refine ev_listRng1 ?_ | with_reducible refine eo_setO ?_
  | with_reducible refine es_name ?_ | with_reducible refine es_tup2 ?_ | with_reducible refine es_tup3 ?_
  | with_reducible refine ed_addI ?_ | with_reducible refine ed_subI ?_ | with_reducible refine ed_cmp ?_ | with_reducible refine ed_eqI ?_ | with_reducible refine ed_neI ?_ | with_reducible refine ed_slT ?_ | with_reducible refine ed_slL ?_ | with_reducible refine ed_lenT ?_ | with_reducible refine ed_lenL ?_ | with_reducible refine ed_lenS ?_ | with_reducible refine ed_inS ?_ | with_reducible refine ed_itT ?_ | with_reducible refine ed_itL ?_ | with_reducible refine ed_tupL ?_ | with_reducible refine ed_tupT ?_ | with_reducible refine ed_listL ?_ | with_reducible refine ed_listT ?_ | with_reducible refine ed_neg ?_ | with_reducible refine ed_max ?_ | with_reducible refine ed_min ?_ | with_reducible refine ed_intB ?_
  | with_reducible refine ev_rng1 ?_ | with_reducible refine ev_rng2 ?_)
local macro_rules | `(tactic| walk_at "sd") => `(tactic| first | rfl | assumption | (simp only [decide_eq_true_eq, decide_eq_false_iff_not, Bool.not_eq_true', Bool.not_eq_false', Bool.and_eq_true, Bool.or_eq_true, List.length_map, List.length_cons, List.length_nil, List.length_append, List.length_range] at *; omega))
local macro_rules | `(tactic| walk_at "e2") => `(tactic| first
  | walk_at "e1" | with_reducible refine ⟨_, rfl, ?_⟩ | with_reducible refine ⟨_, _, rfl, ?_⟩
  | with_reducible refine And.intro (Eq.refl (List.length _)) ?_ | with_reducible refine And.intro (Nat.le_of_ble_eq_true (n := List.length _) rfl) ?_
  | with_reducible refine And.intro (Eq.refl (_ : Sx)) (?_ : Ed _ _)
  | ((with_reducible refine And.intro ?_ (And.intro ?_ (?_ : Ev _ _))); (· rfl); (· rfl))
  | ((with_reducible refine ed_ixT ?_ ?_ ?_); (· decide); (· rfl)) | ((with_reducible refine ed_ixL ?_ ?_ ?_); (· decide); (· rfl)) | ((with_reducible refine ed_at ?_ ?_ ?_); (· decide); (· rfl))
  | ((with_reducible refine ed_modI ?_ ?_); (· first | decide | omega))
  | with_reducible exact gives_nx | ((with_reducible refine gives_rt ?_); (· rfl)) | ((with_reducible refine And.intro ?_ ?_); (· exact rfl); (· with_reducible exact Eq.refl (_ : Sx))))
local macro_rules | `(tactic| walk_at "e") => `(tactic| repeat walk_at "e2")
/-- begin a def's spec -/
local macro_rules | `(tactic| walk_at "i") => `(tactic| simp only [initS, List.map_cons, List.map_nil, List.length_cons, List.length_nil, Nat.reduceAdd, Nat.reduceSub, List.replicate, List.cons_append, List.nil_append])
/-- a known truth decides -/
local macro_rules | `(tactic| walk_at "t") => `(tactic| first | ((with_reducible refine split_t ?_ ?_); (· walk_at "sd")) | ((with_reducible refine split_t' ?_ ?_); (· walk_at "sd")))
local macro_rules | `(tactic| walk_at "f") => `(tactic| first | ((with_reducible refine split_f ?_ ?_); (· walk_at "sd")) | ((with_reducible refine split_f' ?_ ?_); (· walk_at "sd")))
/-- all that is seen in a look -/
local macro_rules | `(tactic| walk_at "v") => `(tactic| (rw [sealAll_mk (by (simp only [List.set_cons_zero, List.set_cons_succ, List.map_cons, List.map_nil, sealS_none, sealS_dat, sealS_scr, sealS_own, List.getElem?_cons_zero, List.getElem?_cons_succ, sealC_lst]; rfl)) (by (simp only [List.set_cons_zero, List.set_cons_succ, List.map_cons, List.map_nil]; rfl))]))
/-! ### whole numbers, rows, companies, lines, ends: of anything -/
def wholeD : D → Bool
  | .int i => decide (0 ≤ i)
  | _ => false
def rowD (n : Nat) (d : D) : Bool := match seqOf d with
  | some xs => decide (xs.length = n)
  | none => false
def Let (c : Nat) : Prop := 97 ≤ c ∧ c ≤ 122
instance (c : Nat) : Decidable (Let c) := inferInstanceAs (Decidable (_ ∧ _))
theorem Let.ok {c : Nat} (h : Let c) : c < 0x110000 := by have := h.2; omega
def companyD : D → Bool
  | .str x => match x.cps.toList with
    | [c] => decide (Let c)
    | _ => false
  | _ => false
def atD (d : D) (i : Nat) : D := ((seqOf d).getD []).getD i .none
def lineD (p : Int) (d : D) : Bool := rowD 3 d && companyD (atD d 2) && (match atD d 0 with | .int a => decide (0 ≤ a) && decide (a < p) | _ => false) && (match atD d 1 with | .int a => decide (0 ≤ a) && decide (a < p) | _ => false)
def endD (n : Nat) (d : D) : Bool := match seqOf d with
  | some [.int a, .int s] => decide (0 ≤ a) && decide (0 ≤ s) && decide (a < n) && decide (s < 2)
  | _ => false
theorem companyD_ch {c : Nat} (h : Let c) : companyD (ch c) = true := decide_eq_true h
theorem x_is_whole (d : D) : m_is_whole [d] = some (.bool (wholeD d)) := by
  unfold m_is_whole; refine mF_of ?_; walk_at "i"; unfold g_is_whole
  walk_at "e"
  refine ⟨fun h1 => ?_, fun h1 => ?_⟩
  · walk_at "e"
    refine ⟨fun h2 => ?_, fun h2 => ?_⟩
    · cases d <;> simp [isT, dTy] at h1 h2
      walk_at "e"
    · cases d <;> simp [isT, dTy] at h1 h2
      walk_at "e"
  · cases d <;> simp [isT, dTy] at h1 <;> walk_at "e"
theorem x_is_row (d : D) (n : Nat) : m_is_row [d, .int n] = some (.bool (rowD n d)) := by
  unfold m_is_row; refine mF_of ?_; walk_at "i"; unfold g_is_row
  walk_at "e"
  rw [isi_seq]
  refine ⟨fun h1 => ?_, fun h1 => ?_⟩
  · obtain ⟨xs, hx⟩ := Option.isSome_iff_exists.mp h1
    walk_at "e"
    refine ed_lenQ (sq_of hx) ?_
    walk_at "e"
    unfold rowD
    rw [gives_rtI, hx]
    simp only [PyData.bool.injEq, decide_eq_decide]
    omega
  · have hx : seqOf d = none := by simpa using h1
    rw [gives_rtI]
    unfold rowD; rw [hx]
theorem letters : ("abcdefghijklmnopqrstuvwxyz" : Str).cps.toList = (List.range 26).map (97 + ·) := by decide +kernel
theorem x_is_company (d : D) : m_is_company [d] = some (.bool (companyD d)) := by
  unfold m_is_company; refine mF_of ?_; walk_at "i"; unfold g_is_company
  walk_at "e"
  refine ⟨fun h1 => ?_, fun h1 => ?_⟩
  · obtain ⟨x, rfl⟩ : ∃ x, d = .str x := by cases d <;> simp [isT, dTy] at h1; exact ⟨_, rfl⟩
    walk_at "e"
    refine ⟨fun h2 => ?_, fun h2 => ?_⟩
    · have hl : x.cps.toList.length = 1 := by
        have h2 := of_decide_eq_true h2
        rw [Array.length_toList]
        exact Int.ofNat.inj h2
      obtain ⟨c, hc⟩ := List.length_eq_one_iff.mp hl
      obtain rfl : x = ⟨#[c]⟩ := congrArg Str.mk (Array.toList_inj.mp (by simpa using hc))
      walk_at "e"
      rw [gives_rtI]
      show PyData.bool _ = PyData.bool (decide (Let c))
      rw [letters]
      congr 1
      apply decide_eq_decide.mpr
      unfold Let
      rw [List.mem_map]
      constructor
      · rintro ⟨i, hi, rfl⟩; rw [List.mem_range] at hi; omega
      · intro h; exact ⟨c - 97, by rw [List.mem_range]; omega, by omega⟩
    · walk_at "e"
      rw [gives_rtI]
      show PyData.bool false = PyData.bool (match x.cps.toList with | [c] => decide (Let c) | _ => false)
      split
      · rename_i c e
        have h2 := of_decide_eq_false h2
        exfalso; apply h2
        have : x.cps.toList.length = 1 := by rw [e]; rfl
        rw [Array.length_toList] at this
        exact congrArg Int.ofNat this
      · rfl
  · rw [gives_rtI]
    cases d <;> first | rfl | simp [isT, dTy] at h1
theorem row_of {n : Nat} {d : D} (h : rowD n d = true) : ∃ xs, Sq d xs ∧ xs.length = n := by
  unfold rowD at h
  split at h
  · rename_i xs e; exact ⟨xs, sq_of e, of_decide_eq_true h⟩
  · cases h
theorem sq_row {n : Nat} {d : D} {xs : List D} (s : Sq d xs) (h : xs.length = n) : rowD n d = true := by unfold rowD; rw [s.of]; exact decide_eq_true h
theorem sq_at {d : D} {xs : List D} (s : Sq d xs) (i : Nat) : atD d i = xs.getD i .none := by unfold atD; rw [s.of]; rfl
def placeD (p : Int) (d : D) : Bool := match d with | .int a => decide (0 ≤ a) && decide (a < p) | _ => false
theorem x_is_line_of (p : Int) (d : D) : m_is_line_of [.int p, d] = some (.bool (lineD p d)) := by
  unfold m_is_line_of; refine mF_of ?_; walk_at "i"; unfold g_is_line_of
  walk_at "e"
  refine Ed.of (x_is_row d 3) ?_
  walk_at "e"
  refine ⟨fun h1 => ?_, fun h1 => ?_⟩
  rotate_left
  · walk_at "t"
    walk_at "e"
    have h1 : rowD 3 d = false := by simpa using h1
    simp [lineD, h1]
  have h1 : rowD 3 d = true := by simpa using h1
  obtain ⟨xs, s, hl⟩ := row_of h1
  obtain ⟨a, b, c, rfl⟩ : ∃ a b c, xs = [a, b, c] := by
    match xs, hl with
    | [a, b, c], _ => exact ⟨a, b, c, rfl⟩
  walk_at "e"
  refine ed_ixQ s (by decide) rfl ?_
  walk_at "e"
  refine Ed.of (x_is_company c) ?_
  walk_at "e"
  have e2 : atD d 2 = c := sq_at s 2
  have e1 : atD d 1 = b := sq_at s 1
  have e0 : atD d 0 = a := sq_at s 0
  have el : lineD p d = (companyD c && placeD p a && placeD p b) := by
    unfold lineD placeD; rw [h1, e2, e1, e0]; rfl
  rw [el]
  refine ⟨fun h2 => ?_, fun h2 => ?_⟩
  · walk_at "e"
    have h2 : companyD c = false := by simpa using h2
    simp [h2]
  have h2 : companyD c = true := by simpa using h2
  walk_at "e"
  refine ev_mapX (xs := [a, b]) (enc := fun z => z) (g := fun z => .bool (placeD p z)) ?_
  walk_at "e"
  refine ed_slQ s fun z sz => ?_
  walk_at "e"
  refine ed_itQ sz ⟨by simp [cutL, HT.sIx], fun z hz => ?_, ?_⟩
  · walk_at "e"
    refine Ed.of (x_is_whole z) ?_
    walk_at "e"
    refine ⟨fun h3 => ?_, fun h3 => ?_⟩
    · cases z <;> simp [wholeD] at h3
      walk_at "e"
      simp [placeD, h3]
    · walk_at "e"
      cases z <;> simp [wholeD] at h3 <;> simp [placeD]
      omega
  · walk_at "e"
    refine all_mapX (placeD p) [a, b] ?_
    simp [h2, Bool.and_assoc]
theorem filter_tt {α : Type} (l : List α) : l.filter (fun _ => true) = l := List.filter_eq_self.mpr fun _ _ => rfl
/-! ### webs -/
abbrev Ln := Int × Int × Nat
def ln (l : Ln) : D := .tuple [.int l.1, .int l.2.1, ch l.2.2]
def wb (p : Int) (ls : List Ln) : D := .tuple [.int p, .tuple (ls.map ln)]
structure LnOk (p : Int) (l : Ln) : Prop where
  a0 : 0 ≤ l.1
  a1 : l.1 < p
  b0 : 0 ≤ l.2.1
  b1 : l.2.1 < p
  c : Let l.2.2
structure WbOk (p : Int) (ls : List Ln) : Prop where
  p0 : 0 ≤ p
  all : ∀ l ∈ ls, LnOk p l
  len : ls.length ≤ 1000000
def IsLn (d : D) (l : Ln) : Prop := Sq d [.int l.1, .int l.2.1, ch l.2.2]
def Lns (d : D) (ls : List Ln) : Prop := ∃ ps : List (D × Ln), Sq d (ps.map (·.1)) ∧ ls = ps.map (·.2) ∧ ∀ q ∈ ps, IsLn q.1 q.2
def Web (d : D) (p : Int) (ls : List Ln) : Prop := ∃ L, Sq d [.int p, L] ∧ Lns L ls
theorem isLn_ln (l : Ln) : IsLn (ln l) l := sq_t _
theorem lns_of {d : D} {ls : List Ln} (s : Sq d (ls.map ln)) : Lns d ls := ⟨ls.map fun l => (ln l, l), by rw [List.map_map]; exact s, by rw [List.map_map]; exact (List.map_id _).symm, fun q hq => by
  obtain ⟨l, _, rfl⟩ := List.mem_map.mp hq
  exact isLn_ln l⟩
theorem web_wb (p : Int) (ls : List Ln) : Web (wb p ls) p ls := ⟨_, sq_t _, lns_of (sq_t _)⟩
theorem good_ln {p : Int} {l : Ln} (h : LnOk p l) : Good 1 (ln l) := good_tup fun d hd => by
  simp only [List.mem_cons, List.not_mem_nil, or_false] at hd
  rcases hd with rfl | rfl | rfl
  · exact good_int _
  · exact good_int _
  · exact good_ch h.c.ok
theorem good_lns {p : Int} {ls : List Ln} (h : ∀ l ∈ ls, LnOk p l) : Good 2 (.tuple (ls.map ln)) := good_tup fun d hd => by
  obtain ⟨l, hl, rfl⟩ := List.mem_map.mp hd
  exact good_ln (h l hl)
theorem lineD_of {p : Int} {d : D} {l : Ln} (s : IsLn d l) (h : LnOk p l) : lineD p d = true := by
  unfold lineD
  rw [sq_row (n := 3) s rfl, sq_at s 2, sq_at s 1, sq_at s 0]
  simp [companyD_ch h.c, h.a0, h.a1, h.b0, h.b1]
theorem line_at {d : D} {ls : List Ln} (h : Lns d ls) {i : Nat} {l : Ln} (hl : ls[i]? = some l) : ∃ xs x, Sq d xs ∧ xs.length = ls.length ∧ xs[i]? = some x ∧ IsLn x l := by
  obtain ⟨ps, s, rfl, hp⟩ := h
  rw [List.getElem?_map] at hl
  obtain ⟨q, hq, rfl⟩ := Option.map_eq_some_iff.mp hl
  exact ⟨_, q.1, s, by simp, by rw [List.getElem?_map, hq]; rfl, hp q (List.mem_of_getElem? hq)⟩
theorem lns_len {d : D} {ls : List Ln} (h : Lns d ls) : ∃ xs, Sq d xs ∧ xs.length = ls.length := by
  obtain ⟨ps, s, rfl, hp⟩ := h
  exact ⟨_, s, by simp⟩
theorem x_web_of {p : Int} {L : D} {ls : List Ln} (hL : Lns L ls) (h : WbOk p ls) : m_web_of [.int p, L] = some (wb p ls) := by
  obtain ⟨ps, s, rfl, hp⟩ := hL
  unfold m_web_of; refine mF_of ?_; walk_at "i"; unfold g_web_of
  walk_at "e"
  refine Ed.of (x_is_whole _) ?_
  walk_at "e"
  refine split_f' (by simp [wholeD, h.p0]) ?_
  walk_at "e"
  rw [s.isi]
  walk_at "f"
  walk_at "e"
  refine ev_mapX (xs := ps) (enc := (·.1)) (g := fun q => .bool true) ?_
  walk_at "e"
  refine ed_itQ s ⟨rfl, fun q hq => ?_, ?_⟩
  · walk_at "e"
    refine Ed.of (x_is_line_of p q.1) ⟨?_, rfl⟩
    rw [lineD_of (hp q hq) (h.all _ (List.mem_map_of_mem hq))]
  · walk_at "e"
    refine all_mapX (fun _ => true) ps ?_
    walk_at "e"
    refine split_f (by simp) ?_
    walk_at "e"
    refine ev_mapX (xs := ps) (enc := (·.1)) (g := fun q => ln q.2) ?_
    walk_at "e"
    refine ed_itQ s ⟨rfl, fun q hq => ?_, ?_⟩
    · walk_at "e"
      exact ed_tupQ (hp q hq) ⟨rfl, rfl⟩
    · walk_at "e"
      simp [wb, List.map_map]
theorem x_kept {w : D} {p : Int} {ls : List Ln} (hw : Web w p ls) (h : WbOk p ls) : m_kept [w] = some (wb p ls) := by
  obtain ⟨L, s, hL⟩ := hw
  unfold m_kept; refine mF_of ?_; walk_at "i"; unfold g_kept
  walk_at "e"
  refine ed_ixQ s (by decide) rfl ?_
  walk_at "e"
  refine ed_ixQ s (by decide) rfl ?_
  walk_at "e"
  exact Ed.of (x_web_of hL h) rfl
theorem x_need_place {w : D} {p : Int} {ls : List Ln} {i : Int} (hw : Web w p ls) (h0 : 0 ≤ i) (h1 : i < p) : m_need_place [w, .int i] = some .none := by
  obtain ⟨L, s, hL⟩ := hw
  unfold m_need_place; refine mF_of ?_; walk_at "i"; unfold g_need_place
  walk_at "e"
  refine Ed.of (x_is_whole _) ?_
  walk_at "e"
  refine split_f' (by simp [wholeD, h0]) ?_
  walk_at "e"
  refine ed_ixQ s (by decide) rfl ?_
  walk_at "e"
  refine split_f (by simpa using h1) ?_
  walk_at "e"
theorem x_need_line {w : D} {p : Int} {ls : List Ln} {i : Int} (hw : Web w p ls) (h0 : 0 ≤ i) (h1 : i < ls.length) : m_need_line [w, .int i] = some .none := by
  obtain ⟨L, s, hL⟩ := hw
  obtain ⟨xs, sx, hl⟩ := lns_len hL
  unfold m_need_line; refine mF_of ?_; walk_at "i"; unfold g_need_line
  walk_at "e"
  refine Ed.of (x_is_whole _) ?_
  walk_at "e"
  refine split_f' (by simp [wholeD, h0]) ?_
  walk_at "e"
  refine ed_ixQ s (by decide) rfl ?_
  walk_at "e"
  refine ed_lenQ sx ?_
  walk_at "e"
  refine split_f (by rw [hl]; simpa using h1) ?_
  walk_at "e"
theorem x_need_company {c : Nat} (h : Let c) : m_need_company [ch c] = some .none := by
  unfold m_need_company; refine mF_of ?_; walk_at "i"; unfold g_need_company
  walk_at "e"
  refine Ed.of (x_is_company _) ?_
  walk_at "e"
  refine split_f (by rw [companyD_ch h]; rfl) ?_
  walk_at "e"
/-! ### ends -/
def en (e : Int × Int) : D := .tuple [.int e.1, .int e.2]
def IsEn (d : D) (e : Int × Int) : Prop := Sq d [.int e.1, .int e.2]
theorem isEn_en (e : Int × Int) : IsEn (en e) e := sq_t _
def EndOk (n : Nat) (e : Int × Int) : Prop := 0 ≤ e.1 ∧ e.1 < n ∧ 0 ≤ e.2 ∧ e.2 < 2
instance (n : Nat) (e : Int × Int) : Decidable (EndOk n e) := by unfold EndOk; infer_instance
theorem endD_of {n : Nat} {d : D} {e : Int × Int} (s : IsEn d e) : endD n d = decide (EndOk n e) := by
  unfold endD
  rw [s.of]
  refine Bool.eq_iff_iff.mpr ⟨fun h => decide_eq_true ?_, fun h => ?_⟩
  · simp only [Bool.and_eq_true, decide_eq_true_eq] at h
    exact ⟨h.1.1.1, h.1.2, h.1.1.2, h.2⟩
  · have h := of_decide_eq_true h
    simp only [Bool.and_eq_true, decide_eq_true_eq]
    exact ⟨⟨⟨h.1, h.2.2.1⟩, h.2.1⟩, h.2.2.2⟩
theorem x_is_end {w : D} {p : Int} {ls : List Ln} (hw : Web w p ls) (d : D) : m_is_end [w, d] = some (.bool (endD ls.length d)) := by
  obtain ⟨L, s, hL⟩ := hw
  obtain ⟨xs, sx, hl⟩ := lns_len hL
  unfold m_is_end; refine mF_of ?_; walk_at "i"; unfold g_is_end
  walk_at "e"
  refine Ed.of (x_is_row d 2) ?_
  walk_at "e"
  refine ⟨fun h1 => ?_, fun h1 => ?_⟩
  rotate_left
  · walk_at "t"
    walk_at "e"
    have h1 : rowD 2 d = false := by simpa using h1
    have : endD ls.length d = false := by
      unfold endD; unfold rowD at h1
      split
      · rename_i e; rw [e] at h1; simp at h1
      · rfl
    simp [this]
  have h1 : rowD 2 d = true := by simpa using h1
  obtain ⟨zs, sz, hz⟩ := row_of h1
  obtain ⟨a, b, rfl⟩ : ∃ a b, zs = [a, b] := by
    match zs, hz with
    | [a, b], _ => exact ⟨a, b, rfl⟩
  have el : endD ls.length d = (wholeD a && wholeD b && (match a, b with | .int a, .int b => decide (a < ls.length) && decide (b < 2) | _, _ => false)) := by
    unfold endD; rw [sz.of]
    cases a <;> cases b <;> simp [wholeD, Bool.and_assoc]
  rw [el]
  walk_at "e"
  refine ed_ixQ sz (by decide) rfl ?_
  walk_at "e"
  refine Ed.of (x_is_whole _) ?_
  walk_at "e"
  refine ⟨fun h2 => ?_, fun h2 => ?_⟩
  rotate_left
  · walk_at "t"
    walk_at "e"
    have h2 : wholeD a = false := by simpa using h2
    simp [h2]
  have h2 : wholeD a = true := by simpa using h2
  walk_at "e"
  refine ed_ixQ sz (by decide) rfl ?_
  walk_at "e"
  refine Ed.of (x_is_whole _) ?_
  walk_at "e"
  refine ⟨fun h3 => ?_, fun h3 => ?_⟩
  · walk_at "e"
    have h3 : wholeD b = false := by simpa using h3
    simp [h2, h3]
  have h3 : wholeD b = true := by simpa using h3
  cases a <;> simp [wholeD] at h2
  cases b <;> simp [wholeD] at h3
  walk_at "e"
  refine ed_ixQ sz (by decide) rfl ?_
  walk_at "e"
  refine ed_ixQ s (by decide) rfl ?_
  walk_at "e"
  refine ed_lenQ sx ?_
  walk_at "e"
  rw [hl]
  refine ⟨fun h4 => ?_, fun h4 => ?_⟩
  · walk_at "e"
    refine ed_ixQ sz (by decide) rfl ?_
    walk_at "e"
    simp [wholeD, h2, h3, h4]
  · walk_at "e"
    simp [h4]
theorem x_need_end {w : D} {p : Int} {ls : List Ln} {d : D} {e : Int × Int} (hw : Web w p ls) (s : IsEn d e) (h : EndOk ls.length e) : m_need_end [w, d] = some (en e) := by
  unfold m_need_end; refine mF_of ?_; walk_at "i"; unfold g_need_end
  walk_at "e"
  refine Ed.of (x_is_end hw d) ?_
  walk_at "e"
  refine split_f (by rw [endD_of s]; simpa using h) ?_
  walk_at "e"
  refine ed_ixQ s (by decide) rfl ?_
  walk_at "e"
  refine ed_ixQ s (by decide) rfl ?_
  walk_at "e"
def sideOf (s : Int) (l : Ln) : Int := if s = 0 then l.1 else l.2.1
def plc (ls : List Ln) (e : Int × Int) : Int := match ls[e.1.toNat]? with
  | some l => sideOf e.2 l
  | none => 0
def cmpy (ls : List Ln) (e : Int × Int) : Nat := match ls[e.1.toNat]? with
  | some l => l.2.2
  | none => 0
def far (e : Int × Int) : Int × Int := (e.1, 1 - e.2)
theorem end_line {n : Nat} {ls : List Ln} {e : Int × Int} (hn : n = ls.length) (h : EndOk n e) : ∃ l, ls[e.1.toNat]? = some l ∧ l ∈ ls := by
  have hl : e.1.toNat < ls.length := by have := h.1; have := h.2.1; omega
  exact ⟨_, List.getElem?_eq_getElem hl, List.getElem_mem hl⟩
theorem x_place_of {w : D} {p : Int} {ls : List Ln} {d : D} {e : Int × Int} (hw : Web w p ls) (s : IsEn d e) (h : EndOk ls.length e) : m_place_of [w, d] = some (.int (plc ls e)) := by
  obtain ⟨L, sw, hL⟩ := hw
  obtain ⟨l, hl, _⟩ := end_line rfl h
  obtain ⟨xs, x, sx, hxl, hx, hln⟩ := line_at hL hl
  unfold m_place_of; refine mF_of ?_; walk_at "i"; unfold g_place_of
  walk_at "e"
  refine ed_ixQ sw (by decide) rfl ?_
  walk_at "e"
  refine ed_ixQ s (by decide) rfl ?_
  walk_at "e"
  refine ed_ixQ sx h.1 hx ?_
  walk_at "e"
  refine ed_ixQ s (by decide) rfl ?_
  walk_at "e"
  have h2 : e.2 = 0 ∨ e.2 = 1 := by have := h.2.2.1; have := h.2.2.2; omega
  unfold plc; rw [hl]
  rcases h2 with h2 | h2 <;> rw [h2] <;> exact ed_ixQ hln (by decide) rfl rfl
/-! ### all ends, the ends at a place -/
def allE (n : Nat) : List (Int × Int) := (List.range n).flatMap fun i : Nat => [((i : Int), 0), ((i : Int), 1)]
theorem allE_len (n : Nat) : (allE n).length = 2 * n := by
  unfold allE
  rw [List.length_flatMap]
  induction n with
  | zero => rfl
  | succ n ih => 
    rw [List.range_succ, List.map_append, List.sum_append, ih]
    simp
    omega
theorem allE_mem {n : Nat} {e : Int × Int} : e ∈ allE n ↔ EndOk n e := by
  unfold allE EndOk
  rw [List.mem_flatMap]
  obtain ⟨a, b⟩ := e
  constructor
  · rintro ⟨i, hi, h⟩
    rw [List.mem_range] at hi
    simp only [List.mem_cons, Prod.mk.injEq, List.not_mem_nil, or_false] at h
    rcases h with ⟨rfl, rfl⟩ | ⟨rfl, rfl⟩ <;> simp only <;> omega
  · rintro ⟨h0, h1, h2, h3⟩
    simp only at h0 h1 h2 h3
    refine ⟨a.toNat, List.mem_range.mpr (by omega), ?_⟩
    simp only [List.mem_cons, Prod.mk.injEq, List.not_mem_nil, or_false, Int.toNat_of_nonneg h0, true_and]
    omega
theorem x_all_ends {w : D} {p : Int} {ls : List Ln} (hw : Web w p ls) (h : ls.length ≤ 1000000) : m_all_ends [w] = some (.list ((allE ls.length).map en)) := by
  obtain ⟨L, s, hL⟩ := hw
  obtain ⟨xs, sx, hl⟩ := lns_len hL
  unfold m_all_ends; refine mF_of ?_; walk_at "i"; unfold g_all_ends
  walk_at "e"
  refine ev_lc2X (xs := List.range ls.length) (enc := fun i => .int (i : Int)) (b := fun _ => true) (es := fun _ => [(0 : Int), 1]) (enc1 := fun _ s => .int s) (b1 := fun _ _ => true) (f := fun i s => en ((i : Int), s)) (by decide) ?_
  walk_at "e"
  refine ed_ixQ s (by decide) rfl ?_
  walk_at "e"
  refine ed_lenQ sx ?_
  walk_at "e"
  refine ⟨by omega, by omega, ?_, fun i hi => ?_, ?_⟩
  · rw [hl, rng0]; rfl
  · walk_at "e"
    refine ⟨rfl, rfl, fun _ => ?_⟩
    walk_at "e"
    refine ⟨by decide, by decide, ⟨rfl, rfl⟩, fun e he => ?_⟩
    walk_at "e"
    refine ⟨rfl, rfl, fun _ => ?_⟩
    walk_at "e"
  · have e : ((List.range ls.length).filter fun _ => true).flatMap (fun i : Nat => (([(0 : Int), 1] : List Int).filter fun _ => true).map fun s => en ((i : Int), s)) = (allE ls.length).map en := by
      simp only [filter_tt]
      unfold allE
      rw [List.map_flatMap]; rfl
    rw [e]
    refine ⟨by rw [List.length_map, allE_len]; omega, ?_⟩
    walk_at "e"
def ends (ls : List Ln) (q : Int) : List (Int × Int) := (allE ls.length).filter fun e => decide (plc ls e = q)
theorem ends_mem {ls : List Ln} {q : Int} {e : Int × Int} : e ∈ ends ls q ↔ EndOk ls.length e ∧ plc ls e = q := by
  unfold ends; rw [List.mem_filter, allE_mem, decide_eq_true_eq]
theorem x_ends_at {w : D} {p q : Int} {ls : List Ln} (hw : Web w p ls) (h : ls.length ≤ 1000000) (q0 : 0 ≤ q) (q1 : q < p) : m_ends_at [w, .int q] = some (.list ((ends ls q).map en)) := by
  unfold m_ends_at; refine mF_of ?_; walk_at "i"; unfold g_ends_at
  walk_at "e"
  refine Ed.of (x_need_place hw q0 q1) ?_
  walk_at "e"
  refine ev_lcX (xs := allE ls.length) (enc := en) (b := fun e => decide (plc ls e = q)) (g := en) ?_
  walk_at "e"
  refine Ed.of (x_all_ends hw h) ?_
  walk_at "e"
  refine ⟨rfl, fun e he => ?_, ?_⟩
  · walk_at "e"
    refine Ed.of (x_place_of hw (isEn_en e) (allE_mem.mp he)) ?_
    walk_at "e"
    refine ⟨rfl, rfl, fun _ => ?_⟩
    walk_at "e"
  · walk_at "e"
end Lw

set_option maxHeartbeats 4000000
namespace Lw
open PySem Fu
local macro_rules | `(tactic| walk_at "e1") => `(tactic| first
  | with_reducible refine eo_seq ?_ | (with_reducible refine then_nx' ?_; refine ⟨?_, ?_, ?_⟩; rotate_left; · (try dsimp only [List.set, List.length_cons, List.length_nil, List.cons_append, List.nil_append, Nat.zero_add, Nat.reduceAdd]); exact rfl) | with_reducible refine then_rt ?_ | with_reducible refine eo_if ?_ | with_reducible refine eo_ret ?_ | with_reducible refine eo_set ?_ | with_reducible refine eo_asg ?_ | with_reducible refine eo_drop ?_ | with_reducible refine eo_nx ?_ | with_reducible refine eo_par ?_ | with_reducible refine eo_own ?_ | with_reducible refine eo_retN ?_ | with_reducible refine eo_for ?_ | with_reducible refine eo_retO ?_
  | with_reducible refine ev_c ?_ | (with_reducible refine ev_var ?_; refine ⟨_, rfl, ?_⟩) | with_reducible refine ev_bin ?_ | with_reducible refine ev_un ?_ | with_reducible refine ev_nil ?_ | with_reducible refine ev_cons ?_
  | with_reducible refine ev_tup ?_ | with_reducible refine ev_lst ?_ | with_reducible refine ev_call ?_ | with_reducible refine ev_callF ?_ | with_reducible refine ev_isi ?_ | with_reducible refine ev_isi2 ?_ | with_reducible refine ev_andV ?_ | with_reducible refine ev_orV ?_ | with_reducible refine ev_notV ?_
  | with_reducible refine ev_B ?_ | with_reducible refine ev_and ?_ | with_reducible refine ev_or ?_ | with_reducible refine ev_not ?_ | with_reducible refine ev_yes ?_ | with_reducible refine ev_if ?_ | with_reducible refine ev_no ?_ | with_reducible refine ev_so ?_ | with_reducible refine ev_sl ?_ | with_reducible refine ev_items ?_
  | (with_reducible refine ev_ixO ?_; refine ⟨_, _, rfl, rfl, ?_⟩) | (with_reducible refine ev_varO ?_; refine ⟨_, _, rfl, rfl, ?_⟩) | (with_reducible refine ev_lenO ?_; refine ⟨_, _, rfl, rfl, ?_⟩) | (with_reducible refine ev_scrSl ?_; refine ⟨_, rfl, ?_⟩) | (with_reducible refine ev_scrLen ?_; refine ⟨_, rfl, ?_⟩) | (with_reducible refine ev_callScr ?_; refine ⟨_, rfl, ?_⟩) | (with_reducible refine ev_OL ?_; refine ⟨_, _, rfl, rfl, ?_⟩) | with_reducible refine ev_OR ?_ | with_reducible refine ev_rep ?_ | with_reducible refine ev_listRng1 ?_ | with_reducible refine eo_setO ?_
  | with_reducible refine es_name ?_ | with_reducible refine es_tup2 ?_ | with_reducible refine es_tup3 ?_
  | with_reducible refine ed_addI ?_ | with_reducible refine ed_subI ?_ | with_reducible refine ed_cmp ?_ | with_reducible refine ed_eqI ?_ | with_reducible refine ed_neI ?_ | with_reducible refine ed_slT ?_ | with_reducible refine ed_slL ?_ | with_reducible refine ed_lenT ?_ | with_reducible refine ed_lenL ?_ | with_reducible refine ed_lenS ?_ | with_reducible refine ed_inS ?_ | with_reducible refine ed_itT ?_ | with_reducible refine ed_itL ?_ | with_reducible refine ed_tupL ?_ | with_reducible refine ed_tupT ?_ | with_reducible refine ed_listL ?_ | with_reducible refine ed_listT ?_ | with_reducible refine ed_neg ?_ | with_reducible refine ed_max ?_ | with_reducible refine ed_min ?_ | with_reducible refine ed_intB ?_
  | with_reducible refine ev_rng1 ?_ | with_reducible refine ev_rng2 ?_)
local macro_rules | `(tactic| walk_at "sd") => `(tactic| first | rfl | assumption | (simp only [decide_eq_true_eq, decide_eq_false_iff_not, Bool.not_eq_true', Bool.not_eq_false', Bool.and_eq_true, Bool.or_eq_true, List.length_map, List.length_cons, List.length_nil, List.length_append, List.length_range] at *; omega))
local macro_rules | `(tactic| walk_at "e2") => `(tactic| first
  | walk_at "e1" | with_reducible refine ⟨_, rfl, ?_⟩ | with_reducible refine ⟨_, _, rfl, ?_⟩
  | with_reducible refine And.intro (Eq.refl (List.length _)) ?_ | with_reducible refine And.intro (Nat.le_of_ble_eq_true (n := List.length _) rfl) ?_
  | with_reducible refine And.intro (Eq.refl (_ : Sx)) (?_ : Ed _ _)
  | ((with_reducible refine And.intro ?_ (And.intro ?_ (?_ : Ev _ _))); (· rfl); (· rfl))
  | ((with_reducible refine ed_ixT ?_ ?_ ?_); (· decide); (· rfl)) | ((with_reducible refine ed_ixL ?_ ?_ ?_); (· decide); (· rfl)) | ((with_reducible refine ed_at ?_ ?_ ?_); (· decide); (· rfl))
  | ((with_reducible refine ed_modI ?_ ?_); (· first | decide | omega))
  | with_reducible exact gives_nx | ((with_reducible refine gives_rt ?_); (· rfl)) | ((with_reducible refine And.intro ?_ ?_); (· exact rfl); (· with_reducible exact Eq.refl (_ : Sx))))
local macro_rules | `(tactic| walk_at "e") => `(tactic| repeat walk_at "e2")
/-- begin a def's spec -/
local macro_rules | `(tactic| walk_at "i") => `(tactic| simp only [initS, List.map_cons, List.map_nil, List.length_cons, List.length_nil, Nat.reduceAdd, Nat.reduceSub, List.replicate, List.cons_append, List.nil_append])
/-- a known truth decides -/
local macro_rules | `(tactic| walk_at "t") => `(tactic| first | ((with_reducible refine split_t ?_ ?_); (· walk_at "sd")) | ((with_reducible refine split_t' ?_ ?_); (· walk_at "sd")))
local macro_rules | `(tactic| walk_at "f") => `(tactic| first | ((with_reducible refine split_f ?_ ?_); (· walk_at "sd")) | ((with_reducible refine split_f' ?_ ?_); (· walk_at "sd")))
/-- all that is seen in a look -/
local macro_rules | `(tactic| walk_at "v") => `(tactic| (rw [sealAll_mk (by (simp only [List.set_cons_zero, List.set_cons_succ, List.map_cons, List.map_nil, sealS_none, sealS_dat, sealS_scr, sealS_own, List.getElem?_cons_zero, List.getElem?_cons_succ, sealC_lst]; rfl)) (by (simp only [List.set_cons_zero, List.set_cons_succ, List.map_cons, List.map_nil]; rfl))]))
/-! ### rides -/
def lastE (es : List (Int × Int)) : Int × Int := es.getLast?.getD (0, 0)
theorem EndOk.far {n : Nat} {e : Int × Int} (h : EndOk n e) : EndOk n (far e) := by
  obtain ⟨h1, h2, h3, h4⟩ := h
  exact ⟨h1, h2, by show 0 ≤ 1 - e.2; omega, by show 1 - e.2 < 2; omega⟩
end Lw

set_option maxHeartbeats 4000000
namespace Lw
open PySem Fu
local macro_rules | `(tactic| walk_at "e1") => `(tactic| first
  | with_reducible refine eo_seq ?_ | (with_reducible refine then_nx' ?_; refine ⟨?_, ?_, ?_⟩; rotate_left; · (try dsimp only [List.set, List.length_cons, List.length_nil, List.cons_append, List.nil_append, Nat.zero_add, Nat.reduceAdd]); exact rfl) | with_reducible refine then_rt ?_ | with_reducible refine eo_if ?_ | with_reducible refine eo_ret ?_ | with_reducible refine eo_set ?_ | with_reducible refine eo_asg ?_ | with_reducible refine eo_drop ?_ | with_reducible refine eo_nx ?_ | with_reducible refine eo_par ?_ | with_reducible refine eo_own ?_ | with_reducible refine eo_retN ?_ | with_reducible refine eo_for ?_ | with_reducible refine eo_retO ?_
  | with_reducible refine ev_c ?_ | (with_reducible refine ev_var ?_; refine ⟨_, rfl, ?_⟩) | with_reducible refine ev_bin ?_ | with_reducible refine ev_un ?_ | with_reducible refine ev_nil ?_ | with_reducible refine ev_cons ?_
  | with_reducible refine ev_tup ?_ | with_reducible refine ev_lst ?_ | with_reducible refine ev_call ?_ | with_reducible refine ev_callF ?_ | with_reducible refine ev_isi ?_ | with_reducible refine ev_isi2 ?_ | with_reducible refine ev_andV ?_ | with_reducible refine ev_orV ?_ | with_reducible refine ev_notV ?_
  | with_reducible refine ev_B ?_ | with_reducible refine ev_and ?_ | with_reducible refine ev_or ?_ | with_reducible refine ev_not ?_ | with_reducible refine ev_yes ?_ | with_reducible refine ev_if ?_ | with_reducible refine ev_no ?_ | with_reducible refine ev_so ?_ | with_reducible refine ev_sl ?_ | with_reducible refine ev_items ?_
  | (with_reducible refine ev_ixO ?_; refine ⟨_, _, rfl, rfl, ?_⟩) | (with_reducible refine ev_varO ?_; refine ⟨_, _, rfl, rfl, ?_⟩) | (with_reducible refine ev_lenO ?_; refine ⟨_, _, rfl, rfl, ?_⟩) | (with_reducible refine ev_scrSl ?_; refine ⟨_, rfl, ?_⟩) | (with_reducible refine ev_scrLen ?_; refine ⟨_, rfl, ?_⟩) | (with_reducible refine ev_callScr ?_; refine ⟨_, rfl, ?_⟩) | (with_reducible refine ev_OL ?_; refine ⟨_, _, rfl, rfl, ?_⟩) | with_reducible refine ev_OR ?_ | with_reducible refine ev_rep ?_ | with_reducible refine ev_listRng1 ?_ | with_reducible refine eo_setO ?_
  | with_reducible refine es_name ?_ | with_reducible refine es_tup2 ?_ | with_reducible refine es_tup3 ?_
  | with_reducible refine ed_addI ?_ | with_reducible refine ed_subI ?_ | with_reducible refine ed_cmp ?_ | with_reducible refine ed_eqI ?_ | with_reducible refine ed_neI ?_ | with_reducible refine ed_slT ?_ | with_reducible refine ed_slL ?_ | with_reducible refine ed_lenT ?_ | with_reducible refine ed_lenL ?_ | with_reducible refine ed_lenS ?_ | with_reducible refine ed_inS ?_ | with_reducible refine ed_itT ?_ | with_reducible refine ed_itL ?_ | with_reducible refine ed_tupL ?_ | with_reducible refine ed_tupT ?_ | with_reducible refine ed_listL ?_ | with_reducible refine ed_listT ?_ | with_reducible refine ed_neg ?_ | with_reducible refine ed_max ?_ | with_reducible refine ed_min ?_ | with_reducible refine ed_intB ?_
  | with_reducible refine ev_rng1 ?_ | with_reducible refine ev_rng2 ?_)
local macro_rules | `(tactic| walk_at "sd") => `(tactic| first | rfl | assumption | (simp only [decide_eq_true_eq, decide_eq_false_iff_not, Bool.not_eq_true', Bool.not_eq_false', Bool.and_eq_true, Bool.or_eq_true, List.length_map, List.length_cons, List.length_nil, List.length_append, List.length_range] at *; omega))
local macro_rules | `(tactic| walk_at "e2") => `(tactic| first
  | walk_at "e1" | with_reducible refine ⟨_, rfl, ?_⟩ | with_reducible refine ⟨_, _, rfl, ?_⟩
  | with_reducible refine And.intro (Eq.refl (List.length _)) ?_ | with_reducible refine And.intro (Nat.le_of_ble_eq_true (n := List.length _) rfl) ?_
  | with_reducible refine And.intro (Eq.refl (_ : Sx)) (?_ : Ed _ _)
  | ((with_reducible refine And.intro ?_ (And.intro ?_ (?_ : Ev _ _))); (· rfl); (· rfl))
  | ((with_reducible refine ed_ixT ?_ ?_ ?_); (· decide); (· rfl)) | ((with_reducible refine ed_ixL ?_ ?_ ?_); (· decide); (· rfl)) | ((with_reducible refine ed_at ?_ ?_ ?_); (· decide); (· rfl))
  | ((with_reducible refine ed_modI ?_ ?_); (· first | decide | omega))
  | with_reducible exact gives_nx | ((with_reducible refine gives_rt ?_); (· rfl)) | ((with_reducible refine And.intro ?_ ?_); (· exact rfl); (· with_reducible exact Eq.refl (_ : Sx))))
local macro_rules | `(tactic| walk_at "e") => `(tactic| repeat walk_at "e2")
/-- begin a def's spec -/
local macro_rules | `(tactic| walk_at "i") => `(tactic| simp only [initS, List.map_cons, List.map_nil, List.length_cons, List.length_nil, Nat.reduceAdd, Nat.reduceSub, List.replicate, List.cons_append, List.nil_append])
/-- a known truth decides -/
local macro_rules | `(tactic| walk_at "t") => `(tactic| first | ((with_reducible refine split_t ?_ ?_); (· walk_at "sd")) | ((with_reducible refine split_t' ?_ ?_); (· walk_at "sd")))
local macro_rules | `(tactic| walk_at "f") => `(tactic| first | ((with_reducible refine split_f ?_ ?_); (· walk_at "sd")) | ((with_reducible refine split_f' ?_ ?_); (· walk_at "sd")))
/-- all that is seen in a look -/
local macro_rules | `(tactic| walk_at "v") => `(tactic| (rw [sealAll_mk (by (simp only [List.set_cons_zero, List.set_cons_succ, List.map_cons, List.map_nil, sealS_none, sealS_dat, sealS_scr, sealS_own, List.getElem?_cons_zero, List.getElem?_cons_succ, sealC_lst]; rfl)) (by (simp only [List.set_cons_zero, List.set_cons_succ, List.map_cons, List.map_nil]; rfl))]))
/-! ### groups by companies -/
namespace Gr
open PySem.W (dataLe)
open L2 (Key)
section
variable {α : Type}
def addG : List (Nat × List α) → Nat → α → List (Nat × List α)
  | [], c, e => [(c, [e])]
  | (k, g) :: G, c, e => if k = c then (k, g ++ [e]) :: G else (k, g) :: addG G c e
end
/-! #### the dict and its lists as cells -/
end Gr
end Lw

set_option maxHeartbeats 4000000
namespace Lw
open PySem Fu
local macro_rules | `(tactic| walk_at "e1") => `(tactic| first
  | with_reducible refine eo_seq ?_ | (with_reducible refine then_nx' ?_; refine ⟨?_, ?_, ?_⟩; rotate_left; · (try dsimp only [List.set, List.length_cons, List.length_nil, List.cons_append, List.nil_append, Nat.zero_add, Nat.reduceAdd]); exact rfl) | with_reducible refine then_rt ?_ | with_reducible refine eo_if ?_ | with_reducible refine eo_ret ?_ | with_reducible refine eo_set ?_ | with_reducible refine eo_asg ?_ | with_reducible refine eo_drop ?_ | with_reducible refine eo_nx ?_ | with_reducible refine eo_par ?_ | with_reducible refine eo_own ?_ | with_reducible refine eo_retN ?_ | with_reducible refine eo_for ?_ | with_reducible refine eo_retO ?_
  | with_reducible refine ev_c ?_ | (with_reducible refine ev_var ?_; refine ⟨_, rfl, ?_⟩) | with_reducible refine ev_bin ?_ | with_reducible refine ev_un ?_ | with_reducible refine ev_nil ?_ | with_reducible refine ev_cons ?_
  | with_reducible refine ev_tup ?_ | with_reducible refine ev_lst ?_ | with_reducible refine ev_call ?_ | with_reducible refine ev_callF ?_ | with_reducible refine ev_isi ?_ | with_reducible refine ev_isi2 ?_ | with_reducible refine ev_andV ?_ | with_reducible refine ev_orV ?_ | with_reducible refine ev_notV ?_
  | with_reducible refine ev_B ?_ | with_reducible refine ev_and ?_ | with_reducible refine ev_or ?_ | with_reducible refine ev_not ?_ | with_reducible refine ev_yes ?_ | with_reducible refine ev_if ?_ | with_reducible refine ev_no ?_ | with_reducible refine ev_so ?_ | with_reducible refine ev_sl ?_ | with_reducible refine ev_items ?_
  | (with_reducible refine ev_ixO ?_; refine ⟨_, _, rfl, rfl, ?_⟩) | (with_reducible refine ev_varO ?_; refine ⟨_, _, rfl, rfl, ?_⟩) | (with_reducible refine ev_lenO ?_; refine ⟨_, _, rfl, rfl, ?_⟩) | (with_reducible refine ev_scrSl ?_; refine ⟨_, rfl, ?_⟩) | (with_reducible refine ev_scrLen ?_; refine ⟨_, rfl, ?_⟩) | (with_reducible refine ev_callScr ?_; refine ⟨_, rfl, ?_⟩) | (with_reducible refine ev_OL ?_; refine ⟨_, _, rfl, rfl, ?_⟩) | with_reducible refine ev_OR ?_ | with_reducible refine ev_rep ?_ | with_reducible refine ev_listRng1 ?_ | with_reducible refine eo_setO ?_
  | with_reducible refine es_name ?_ | with_reducible refine es_tup2 ?_ | with_reducible refine es_tup3 ?_
  | with_reducible refine ed_addI ?_ | with_reducible refine ed_subI ?_ | with_reducible refine ed_cmp ?_ | with_reducible refine ed_eqI ?_ | with_reducible refine ed_neI ?_ | with_reducible refine ed_slT ?_ | with_reducible refine ed_slL ?_ | with_reducible refine ed_lenT ?_ | with_reducible refine ed_lenL ?_ | with_reducible refine ed_lenS ?_ | with_reducible refine ed_inS ?_ | with_reducible refine ed_itT ?_ | with_reducible refine ed_itL ?_ | with_reducible refine ed_tupL ?_ | with_reducible refine ed_tupT ?_ | with_reducible refine ed_listL ?_ | with_reducible refine ed_listT ?_ | with_reducible refine ed_neg ?_ | with_reducible refine ed_max ?_ | with_reducible refine ed_min ?_ | with_reducible refine ed_intB ?_
  | with_reducible refine ev_rng1 ?_ | with_reducible refine ev_rng2 ?_)
local macro_rules | `(tactic| walk_at "sd") => `(tactic| first | rfl | assumption | (simp only [decide_eq_true_eq, decide_eq_false_iff_not, Bool.not_eq_true', Bool.not_eq_false', Bool.and_eq_true, Bool.or_eq_true, List.length_map, List.length_cons, List.length_nil, List.length_append, List.length_range] at *; omega))
local macro_rules | `(tactic| walk_at "e2") => `(tactic| first
  | walk_at "e1" | with_reducible refine ⟨_, rfl, ?_⟩ | with_reducible refine ⟨_, _, rfl, ?_⟩
  | with_reducible refine And.intro (Eq.refl (List.length _)) ?_ | with_reducible refine And.intro (Nat.le_of_ble_eq_true (n := List.length _) rfl) ?_
  | with_reducible refine And.intro (Eq.refl (_ : Sx)) (?_ : Ed _ _)
  | ((with_reducible refine And.intro ?_ (And.intro ?_ (?_ : Ev _ _))); (· rfl); (· rfl))
  | ((with_reducible refine ed_ixT ?_ ?_ ?_); (· decide); (· rfl)) | ((with_reducible refine ed_ixL ?_ ?_ ?_); (· decide); (· rfl)) | ((with_reducible refine ed_at ?_ ?_ ?_); (· decide); (· rfl))
  | ((with_reducible refine ed_modI ?_ ?_); (· first | decide | omega))
  | with_reducible exact gives_nx | ((with_reducible refine gives_rt ?_); (· rfl)) | ((with_reducible refine And.intro ?_ ?_); (· exact rfl); (· with_reducible exact Eq.refl (_ : Sx))))
local macro_rules | `(tactic| walk_at "e") => `(tactic| repeat walk_at "e2")
/-- begin a def's spec -/
local macro_rules | `(tactic| walk_at "i") => `(tactic| simp only [initS, List.map_cons, List.map_nil, List.length_cons, List.length_nil, Nat.reduceAdd, Nat.reduceSub, List.replicate, List.cons_append, List.nil_append])
/-- a known truth decides -/
local macro_rules | `(tactic| walk_at "t") => `(tactic| first | ((with_reducible refine split_t ?_ ?_); (· walk_at "sd")) | ((with_reducible refine split_t' ?_ ?_); (· walk_at "sd")))
local macro_rules | `(tactic| walk_at "f") => `(tactic| first | ((with_reducible refine split_f ?_ ?_); (· walk_at "sd")) | ((with_reducible refine split_f' ?_ ?_); (· walk_at "sd")))
/-- all that is seen in a look -/
local macro_rules | `(tactic| walk_at "v") => `(tactic| (rw [sealAll_mk (by (simp only [List.set_cons_zero, List.set_cons_succ, List.map_cons, List.map_nil, sealS_none, sealS_dat, sealS_scr, sealS_own, List.getElem?_cons_zero, List.getElem?_cons_succ, sealC_lst]; rfl)) (by (simp only [List.set_cons_zero, List.set_cons_succ, List.map_cons, List.map_nil]; rfl))]))
namespace Gr
open PySem.W (dataLe)
open L2 (Key)
section
variable {α : Type}
theorem sum_addG {c : Nat} {e : α} : ∀ G : List (Nat × List α), ((addG G c e).map fun g => g.2.length).sum = (G.map fun g => g.2.length).sum + 1
  | [] => rfl
  | (k, g) :: G => by
    unfold addG
    split
    · simp only [List.map_cons, List.sum_cons, List.length_append, List.length_cons, List.length_nil]
      omega
    · simp only [List.map_cons, List.sum_cons, sum_addG G]
      omega
theorem keys_addG {c : Nat} {e : α} : ∀ G : List (Nat × List α), (addG G c e).map (·.1) = if c ∈ G.map (·.1) then G.map (·.1) else G.map (·.1) ++ [c]
  | [] => by simp [addG]
  | (k, g) :: G => by
    unfold addG
    by_cases hk : k = c
    · simp [hk]
    · have hk' : ¬ c = k := fun z => hk z.symm
      simp only [hk, if_false, List.map_cons, keys_addG G, List.mem_cons, hk', false_or]
      split <;> rfl
theorem mem_addG {c : Nat} {e : α} {x : Nat × List α} : ∀ {G : List (Nat × List α)}, (G.map (·.1)).Nodup → x ∈ addG G c e → (x ∈ G ∧ x.1 ≠ c) ∨ (x.1 = c ∧ ((∃ g, (c, g) ∈ G ∧ x.2 = g ++ [e]) ∨ ((∀ y ∈ G, y.1 ≠ c) ∧ x.2 = [e])))
  | [], _, h => by
    simp [addG] at h
    subst h
    exact .inr ⟨rfl, .inr ⟨(fun y hy => by cases hy), rfl⟩⟩
  | (k, g) :: G, nd, h => by
    have nd' := List.nodup_cons.mp (show (k :: G.map (·.1)).Nodup from nd)
    unfold addG at h
    split at h
    · rename_i hk
      rcases List.mem_cons.mp h with z | z
      · subst z hk
        exact .inr ⟨rfl, .inl ⟨g, List.mem_cons_self, rfl⟩⟩
      · refine .inl ⟨List.mem_cons_of_mem _ z, fun y => nd'.1 ?_⟩
        exact List.mem_map.mpr ⟨x, z, y.trans hk.symm⟩
    · rename_i hk
      rcases List.mem_cons.mp h with z | z
      · subst z
        exact .inl ⟨List.mem_cons_self, hk⟩
      · rcases mem_addG (G := G) nd'.2 z with ⟨a, b⟩ | ⟨a, ⟨g', b, b2⟩ | ⟨b, b2⟩⟩
        · exact .inl ⟨List.mem_cons_of_mem _ a, b⟩
        · exact .inr ⟨a, .inl ⟨g', List.mem_cons_of_mem _ b, b2⟩⟩
        · refine .inr ⟨a, .inr ⟨fun y hy => ?_, b2⟩⟩
          rcases List.mem_cons.mp hy with q | q
          · subst q; exact hk
          · exact b y q
structure GrpOk (f : α → Nat) (L : List α) (G : List (Nat × List α)) : Prop where
  nd : (G.map (·.1)).Nodup
  fl : ∀ g ∈ G, g.2 = L.filter (fun e => decide (f e = g.1)) ∧ g.2 ≠ []
  all : ∀ e ∈ L, f e ∈ G.map (·.1)
  sum : (G.map fun g => g.2.length).sum = L.length
theorem GrpOk.step {f : α → Nat} {L : List α} {G : List (Nat × List α)} (h : GrpOk f L G) (e : α) : GrpOk f (L ++ [e]) (addG G (f e) e) where
  nd := by
    rw [keys_addG]
    split
    · exact h.nd
    · rename_i hc
      exact List.nodup_append.mpr ⟨h.nd, by simp, fun a ha b hb => by simp at hb; subst hb; intro z; subst z; exact hc ha⟩
  fl := fun x hx => by
    rw [List.filter_append]
    rcases mem_addG h.nd hx with ⟨a, b⟩ | ⟨a, ⟨g, b, b2⟩ | ⟨b, b2⟩⟩
    · obtain ⟨h1, h2⟩ := h.fl x a
      refine ⟨?_, h2⟩
      have : ¬ f e = x.1 := fun z => b z.symm
      simp [this, ← h1]
    · obtain ⟨h1, h2⟩ := h.fl _ b
      simp only at h1
      refine ⟨?_, by rw [b2]; simp⟩
      rw [b2, a, ← h1]
      simp
    · refine ⟨?_, by rw [b2]; simp⟩
      rw [b2, a]
      have : L.filter (fun e' => decide (f e' = f e)) = [] := by
        rw [List.filter_eq_nil_iff]
        intro e' he' z
        obtain ⟨g, hg, hk⟩ := List.mem_map.mp (h.all e' he')
        exact b g hg (hk.trans (by simpa using z))
      rw [this]
      simp
  all := fun x hx => by
    rw [keys_addG]
    rcases List.mem_append.mp hx with z | z
    · have := h.all x z
      split
      · exact this
      · exact List.mem_append_left _ this
    · simp at z
      subst z
      split
      · assumption
      · simp
  sum := by rw [sum_addG, h.sum]; simp
end
/-! #### the def -/
end Gr
end Lw

set_option maxHeartbeats 4000000
namespace Lw
open PySem Fu
local macro_rules | `(tactic| walk_at "e1") => `(tactic| first
  | with_reducible refine eo_seq ?_ | (with_reducible refine then_nx' ?_; refine ⟨?_, ?_, ?_⟩; rotate_left; · (try dsimp only [List.set, List.length_cons, List.length_nil, List.cons_append, List.nil_append, Nat.zero_add, Nat.reduceAdd]); exact rfl) | with_reducible refine then_rt ?_ | with_reducible refine eo_if ?_ | with_reducible refine eo_ret ?_ | with_reducible refine eo_set ?_ | with_reducible refine eo_asg ?_ | with_reducible refine eo_drop ?_ | with_reducible refine eo_nx ?_ | with_reducible refine eo_par ?_ | with_reducible refine eo_own ?_ | with_reducible refine eo_retN ?_ | with_reducible refine eo_for ?_ | with_reducible refine eo_retO ?_
  | with_reducible refine ev_c ?_ | (with_reducible refine ev_var ?_; refine ⟨_, rfl, ?_⟩) | with_reducible refine ev_bin ?_ | with_reducible refine ev_un ?_ | with_reducible refine ev_nil ?_ | with_reducible refine ev_cons ?_
  | with_reducible refine ev_tup ?_ | with_reducible refine ev_lst ?_ | with_reducible refine ev_call ?_ | with_reducible refine ev_callF ?_ | with_reducible refine ev_isi ?_ | with_reducible refine ev_isi2 ?_ | with_reducible refine ev_andV ?_ | with_reducible refine ev_orV ?_ | with_reducible refine ev_notV ?_
  | with_reducible refine ev_B ?_ | with_reducible refine ev_and ?_ | with_reducible refine ev_or ?_ | with_reducible refine ev_not ?_ | with_reducible refine ev_yes ?_ | with_reducible refine ev_if ?_ | with_reducible refine ev_no ?_ | with_reducible refine ev_so ?_ | with_reducible refine ev_sl ?_ | with_reducible refine ev_items ?_
  | (with_reducible refine ev_ixO ?_; refine ⟨_, _, rfl, rfl, ?_⟩) | (with_reducible refine ev_varO ?_; refine ⟨_, _, rfl, rfl, ?_⟩) | (with_reducible refine ev_lenO ?_; refine ⟨_, _, rfl, rfl, ?_⟩) | (with_reducible refine ev_scrSl ?_; refine ⟨_, rfl, ?_⟩) | (with_reducible refine ev_scrLen ?_; refine ⟨_, rfl, ?_⟩) | (with_reducible refine ev_callScr ?_; refine ⟨_, rfl, ?_⟩) | (with_reducible refine ev_OL ?_; refine ⟨_, _, rfl, rfl, ?_⟩) | with_reducible refine ev_OR ?_ | with_reducible refine ev_rep ?_ | with_reducible refine ev_listRng1 ?_ | with_reducible refine eo_setO ?_
  | with_reducible refine es_name ?_ | with_reducible refine es_tup2 ?_ | with_reducible refine es_tup3 ?_
  | with_reducible refine ed_addI ?_ | with_reducible refine ed_subI ?_ | with_reducible refine ed_cmp ?_ | with_reducible refine ed_eqI ?_ | with_reducible refine ed_neI ?_ | with_reducible refine ed_slT ?_ | with_reducible refine ed_slL ?_ | with_reducible refine ed_lenT ?_ | with_reducible refine ed_lenL ?_ | with_reducible refine ed_lenS ?_ | with_reducible refine ed_inS ?_ | with_reducible refine ed_itT ?_ | with_reducible refine ed_itL ?_ | with_reducible refine ed_tupL ?_ | with_reducible refine ed_tupT ?_ | with_reducible refine ed_listL ?_ | with_reducible refine ed_listT ?_ | with_reducible refine ed_neg ?_ | with_reducible refine ed_max ?_ | with_reducible refine ed_min ?_ | with_reducible refine ed_intB ?_)
local macro_rules | `(tactic| walk_at "e2") => `(tactic| first
  | walk_at "e1" | with_reducible refine ⟨_, rfl, ?_⟩ | with_reducible refine ⟨_, _, rfl, ?_⟩
  | with_reducible refine And.intro (Eq.refl (List.length _)) ?_ | with_reducible refine And.intro (Nat.le_of_ble_eq_true (n := List.length _) rfl) ?_
  | with_reducible refine And.intro (Eq.refl (_ : Sx)) (?_ : Ed _ _)
  | with_reducible exact gives_nx | with_reducible (refine gives_rt ?_; rfl))
local macro_rules | `(tactic| walk_at "e") => `(tactic| repeat walk_at "e2")
/-- begin a def's spec -/
local macro_rules | `(tactic| walk_at "i") => `(tactic| simp only [initS, List.map_cons, List.map_nil, List.length_cons, List.length_nil, Nat.reduceAdd, Nat.reduceSub, List.replicate, List.cons_append, List.nil_append])
namespace Sp
/-! ### the spring -/
structure Reel (b : Nat) (cs : List D) : Prop where
  ex : ∃ (f s n : Int), cs = [.int f, .int s, .int n] ∧ 0 ≤ f ∧ 0 ≤ s ∧ s < 2305843009213693951 ∧ 0 ≤ n ∧ n + b ≤ 18446744073709551616
theorem Reel.mono {a b : Nat} {cs : List D} (h : Reel a cs) (l : b ≤ a) : Reel b cs := by
  obtain ⟨f, s, n, h1, h2, h3, h4, h5, h6⟩ := h
  exact ⟨f, s, n, h1, h2, h3, h4, h5, by omega⟩
theorem log_lt {i : Int} {k : Nat} (h : i.natAbs < 2 ^ (k + 1)) : i.natAbs.log2 ≤ k := by
  by_cases z : i.natAbs = 0
  · rw [z]; simp
  · exact Nat.le_of_lt_succ ((Nat.log2_lt z).mpr h)
theorem mulW {i j : Int} (a : -170141183460469231731687303715884105728 < i ∧ i < 170141183460469231731687303715884105728) (b : -170141183460469231731687303715884105728 < j ∧ j < 170141183460469231731687303715884105728) : L2.CMulW i j := by
  unfold L2.CMulW
  have h1 : i.natAbs.log2 ≤ 126 := log_lt (by show i.natAbs < 170141183460469231731687303715884105728; omega)
  have h2 : j.natAbs.log2 ≤ 126 := log_lt (by show j.natAbs < 170141183460469231731687303715884105728; omega)
  omega
theorem divW {i j : Int} (a : 0 < j ∧ j < 170141183460469231731687303715884105728) : L2.CDivW i j := by
  unfold L2.CDivW
  have h2 : j.natAbs.log2 ≤ 126 := log_lt (by show j.natAbs < 170141183460469231731687303715884105728; omega)
  exact ⟨a.1, by omega⟩
theorem x_draw {b : Nat} {cs : List D} {many : Int} (h : Reel (b + 1) cs) (m0 : 0 < many) (m1 : many ≤ 18446744073709551616) : ∃ d cs', m__law_draw_k15 cs [.int many] = some (d, cs') ∧ ∃ v, d = .int v ∧ 0 ≤ v ∧ v < many ∧ Reel b cs' := by
  obtain ⟨f, s, n, rfl, f0, s0, s1, n0, n1⟩ := h
  unfold m__law_draw_k15; refine mIO_of ?_; walk_at "i"; unfold g__law_draw_k15
  walk_at "e"
  refine ed_at (by decide) rfl ?_
  walk_at "e"
  refine ⟨fun ht => ?_, fun ht => ?_⟩
  · walk_at "e"
    refine ed_at (by decide) rfl ?_
    walk_at "e"
    refine ed_modI m0 ?_
    walk_at "e"
    refine ed_at (by decide) rfl ?_
    walk_at "e"
    refine ed_divI (divW ⟨m0, by omega⟩) ?_
    refine ⟨0, _, rfl, rfl, ?_⟩
    walk_at "e"
    refine ⟨rfl, 0, rfl, by simp, ?_⟩
    walk_at "e"
    exact ⟨_, rfl, _, rfl, Int.emod_nonneg _ (by omega), Int.emod_lt_of_pos _ m0, f / many, s, n, rfl, Int.ediv_nonneg f0 (by omega), s0, s1, n0, by omega⟩
  · walk_at "e"
    refine ed_at (by decide) rfl ?_
    walk_at "e"
    refine ⟨0, _, rfl, rfl, ?_⟩
    walk_at "e"
    refine ⟨rfl, 2, rfl, by simp, ?_⟩
    walk_at "e"
    refine ed_at (by decide) rfl ?_
    walk_at "e"
    refine ed_at (by decide) rfl ?_
    walk_at "e"
    refine ed_mulI (mulW ⟨by omega, by omega⟩ ⟨by omega, by omega⟩) ?_
    walk_at "e"
    refine ed_modI (by decide) ?_
    walk_at "e"
    refine ed_at (by decide) rfl ?_
    walk_at "e"
    refine ed_mulI (mulW ⟨by omega, by omega⟩ ⟨by omega, by omega⟩) ?_
    walk_at "e"
    refine ed_at (by decide) rfl ?_
    walk_at "e"
    refine ed_mulI (mulW ⟨by omega, by omega⟩ ⟨by omega, by omega⟩) ?_
    walk_at "e"
    refine ed_modI (by decide) ?_
    refine ⟨0, _, rfl, rfl, ?_⟩
    walk_at "e"
    refine ⟨rfl, 1, rfl, by simp, ?_⟩
    walk_at "e"
    refine ed_at (by decide) rfl ?_
    walk_at "e"
    refine ed_divI (divW ⟨by decide, by decide⟩) ?_
    walk_at "e"
    refine ed_modI m0 ?_
    exact ⟨_, rfl, _, rfl, Int.emod_nonneg _ (by omega), Int.emod_lt_of_pos _ m0, f, _, n + 1, rfl, f0, Int.emod_nonneg _ (by decide), Int.emod_lt_of_pos _ (by decide), by omega, by omega⟩
end Sp
end Lw

set_option maxHeartbeats 4000000
namespace Lw
open PySem Fu
local macro_rules | `(tactic| walk_at "e1") => `(tactic| first
  | with_reducible refine eo_seq ?_ | (with_reducible refine then_nx' ?_; refine ⟨?_, ?_, ?_⟩; rotate_left; · (try dsimp only [List.set, List.length_cons, List.length_nil, List.cons_append, List.nil_append, Nat.zero_add, Nat.reduceAdd]); exact rfl) | with_reducible refine then_rt ?_ | with_reducible refine eo_if ?_ | with_reducible refine eo_ret ?_ | with_reducible refine eo_set ?_ | with_reducible refine eo_asg ?_ | with_reducible refine eo_drop ?_ | with_reducible refine eo_nx ?_ | with_reducible refine eo_par ?_ | with_reducible refine eo_own ?_ | with_reducible refine eo_retN ?_ | with_reducible refine eo_for ?_ | with_reducible refine eo_retO ?_
  | with_reducible refine ev_c ?_ | (with_reducible refine ev_var ?_; refine ⟨_, rfl, ?_⟩) | with_reducible refine ev_bin ?_ | with_reducible refine ev_un ?_ | with_reducible refine ev_nil ?_ | with_reducible refine ev_cons ?_
  | with_reducible refine ev_tup ?_ | with_reducible refine ev_lst ?_ | with_reducible refine ev_call ?_ | with_reducible refine ev_callF ?_ | with_reducible refine ev_isi ?_ | with_reducible refine ev_isi2 ?_ | with_reducible refine ev_andV ?_ | with_reducible refine ev_orV ?_ | with_reducible refine ev_notV ?_
  | with_reducible refine ev_B ?_ | with_reducible refine ev_and ?_ | with_reducible refine ev_or ?_ | with_reducible refine ev_not ?_ | with_reducible refine ev_yes ?_ | with_reducible refine ev_if ?_ | with_reducible refine ev_no ?_ | with_reducible refine ev_so ?_ | with_reducible refine ev_sl ?_ | with_reducible refine ev_items ?_
  | (with_reducible refine ev_ixO ?_; refine ⟨_, _, rfl, rfl, ?_⟩) | (with_reducible refine ev_varO ?_; refine ⟨_, _, rfl, rfl, ?_⟩) | (with_reducible refine ev_lenO ?_; refine ⟨_, _, rfl, rfl, ?_⟩) | (with_reducible refine ev_scrSl ?_; refine ⟨_, rfl, ?_⟩) | (with_reducible refine ev_scrLen ?_; refine ⟨_, rfl, ?_⟩) | (with_reducible refine ev_callScr ?_; refine ⟨_, rfl, ?_⟩) | (with_reducible refine ev_OL ?_; refine ⟨_, _, rfl, rfl, ?_⟩) | with_reducible refine ev_OR ?_ | with_reducible refine ev_rep ?_ | with_reducible refine ev_listRng1 ?_ | with_reducible refine eo_setO ?_
  | with_reducible refine es_name ?_ | with_reducible refine es_tup2 ?_ | with_reducible refine es_tup3 ?_
  | with_reducible refine ed_addI ?_ | with_reducible refine ed_subI ?_ | with_reducible refine ed_cmp ?_ | with_reducible refine ed_eqI ?_ | with_reducible refine ed_neI ?_ | with_reducible refine ed_slT ?_ | with_reducible refine ed_slL ?_ | with_reducible refine ed_lenT ?_ | with_reducible refine ed_lenL ?_ | with_reducible refine ed_lenS ?_ | with_reducible refine ed_inS ?_ | with_reducible refine ed_itT ?_ | with_reducible refine ed_itL ?_ | with_reducible refine ed_tupL ?_ | with_reducible refine ed_tupT ?_ | with_reducible refine ed_listL ?_ | with_reducible refine ed_listT ?_ | with_reducible refine ed_neg ?_ | with_reducible refine ed_max ?_ | with_reducible refine ed_min ?_ | with_reducible refine ed_intB ?_
  | with_reducible refine ev_rng1 ?_ | with_reducible refine ev_rng2 ?_)
local macro_rules | `(tactic| walk_at "sd") => `(tactic| first | rfl | assumption | (simp only [decide_eq_true_eq, decide_eq_false_iff_not, Bool.not_eq_true', Bool.not_eq_false', Bool.and_eq_true, Bool.or_eq_true, List.length_map, List.length_cons, List.length_nil, List.length_append, List.length_range] at *; omega))
local macro_rules | `(tactic| walk_at "e2") => `(tactic| first
  | walk_at "e1" | with_reducible refine ⟨_, rfl, ?_⟩ | with_reducible refine ⟨_, _, rfl, ?_⟩
  | with_reducible refine And.intro (Eq.refl (List.length _)) ?_ | with_reducible refine And.intro (Nat.le_of_ble_eq_true (n := List.length _) rfl) ?_
  | with_reducible refine And.intro (Eq.refl (_ : Sx)) (?_ : Ed _ _)
  | ((with_reducible refine And.intro ?_ (And.intro ?_ (?_ : Ev _ _))); (· rfl); (· rfl))
  | ((with_reducible refine ed_ixT ?_ ?_ ?_); (· decide); (· rfl)) | ((with_reducible refine ed_ixL ?_ ?_ ?_); (· decide); (· rfl)) | ((with_reducible refine ed_at ?_ ?_ ?_); (· decide); (· rfl))
  | ((with_reducible refine ed_modI ?_ ?_); (· first | decide | omega))
  | with_reducible exact gives_nx | ((with_reducible refine gives_rt ?_); (· rfl)) | ((with_reducible refine And.intro ?_ ?_); (· exact rfl); (· with_reducible exact Eq.refl (_ : Sx))))
local macro_rules | `(tactic| walk_at "e") => `(tactic| repeat walk_at "e2")
/-- begin a def's spec -/
local macro_rules | `(tactic| walk_at "i") => `(tactic| simp only [initS, List.map_cons, List.map_nil, List.length_cons, List.length_nil, Nat.reduceAdd, Nat.reduceSub, List.replicate, List.cons_append, List.nil_append])
/-- a known truth decides -/
local macro_rules | `(tactic| walk_at "t") => `(tactic| first | ((with_reducible refine split_t ?_ ?_); (· walk_at "sd")) | ((with_reducible refine split_t' ?_ ?_); (· walk_at "sd")))
local macro_rules | `(tactic| walk_at "f") => `(tactic| first | ((with_reducible refine split_f ?_ ?_); (· walk_at "sd")) | ((with_reducible refine split_f' ?_ ?_); (· walk_at "sd")))
/-- all that is seen in a look -/
local macro_rules | `(tactic| walk_at "v") => `(tactic| (rw [sealAll_mk (by (simp only [List.set_cons_zero, List.set_cons_succ, List.map_cons, List.map_nil, sealS_none, sealS_dat, sealS_scr, sealS_own, List.getElem?_cons_zero, List.getElem?_cons_succ, sealC_lst]; rfl)) (by (simp only [List.set_cons_zero, List.set_cons_succ, List.map_cons, List.map_nil]; rfl))]))
namespace Gr
def mxc (cs : List Nat) : Int := (cs.map fun c => (cs.count c : Int)).foldl max 0
/-- what a place wants -/
def wntC (cs : List Nat) : Int := max (2 * mxc cs - cs.length) ((cs.length : Int) % 2)
def wnt (ls : List Ln) (q : Int) : Int := wntC ((ends ls q).map (cmpy ls))
/-! #### the law's own want -/
end Gr
end Lw

set_option maxHeartbeats 4000000
namespace Lw
open PySem Fu
local macro_rules | `(tactic| walk_at "e1") => `(tactic| first
  | with_reducible refine eo_seq ?_ | (with_reducible refine then_nx' ?_; refine ⟨?_, ?_, ?_⟩; rotate_left; · (try dsimp only [List.set, List.length_cons, List.length_nil, List.cons_append, List.nil_append, Nat.zero_add, Nat.reduceAdd]); exact rfl) | with_reducible refine then_rt ?_ | with_reducible refine eo_if ?_ | with_reducible refine eo_ret ?_ | with_reducible refine eo_set ?_ | with_reducible refine eo_asg ?_ | with_reducible refine eo_drop ?_ | with_reducible refine eo_nx ?_ | with_reducible refine eo_par ?_ | with_reducible refine eo_own ?_ | with_reducible refine eo_retN ?_ | with_reducible refine eo_for ?_ | with_reducible refine eo_retO ?_
  | with_reducible refine ev_c ?_ | (with_reducible refine ev_var ?_; refine ⟨_, rfl, ?_⟩) | with_reducible refine ev_bin ?_ | with_reducible refine ev_un ?_ | with_reducible refine ev_nil ?_ | with_reducible refine ev_cons ?_
  | with_reducible refine ev_tup ?_ | with_reducible refine ev_lst ?_ | with_reducible refine ev_call ?_ | with_reducible refine ev_callF ?_ | with_reducible refine ev_isi ?_ | with_reducible refine ev_isi2 ?_ | with_reducible refine ev_andV ?_ | with_reducible refine ev_orV ?_ | with_reducible refine ev_notV ?_
  | with_reducible refine ev_B ?_ | with_reducible refine ev_and ?_ | with_reducible refine ev_or ?_ | with_reducible refine ev_not ?_ | with_reducible refine ev_yes ?_ | with_reducible refine ev_if ?_ | with_reducible refine ev_no ?_ | with_reducible refine ev_so ?_ | with_reducible refine ev_sl ?_ | with_reducible refine ev_items ?_
  | (with_reducible refine ev_ixO ?_; refine ⟨_, _, rfl, rfl, ?_⟩) | (with_reducible refine ev_varO ?_; refine ⟨_, _, rfl, rfl, ?_⟩) | (with_reducible refine ev_lenO ?_; refine ⟨_, _, rfl, rfl, ?_⟩) | (with_reducible refine ev_scrSl ?_; refine ⟨_, rfl, ?_⟩) | (with_reducible refine ev_scrLen ?_; refine ⟨_, rfl, ?_⟩) | (with_reducible refine ev_callScr ?_; refine ⟨_, rfl, ?_⟩) | (with_reducible refine ev_OL ?_; refine ⟨_, _, rfl, rfl, ?_⟩) | with_reducible refine ev_OR ?_ | with_reducible refine ev_rep ?_ | with_reducible refine ev_listRng1 ?_ | with_reducible refine eo_setO ?_
  | with_reducible refine es_name ?_ | with_reducible refine es_tup2 ?_ | with_reducible refine es_tup3 ?_
  | with_reducible refine ed_addI ?_ | with_reducible refine ed_subI ?_ | with_reducible refine ed_cmp ?_ | with_reducible refine ed_eqI ?_ | with_reducible refine ed_neI ?_ | with_reducible refine ed_slT ?_ | with_reducible refine ed_slL ?_ | with_reducible refine ed_lenT ?_ | with_reducible refine ed_lenL ?_ | with_reducible refine ed_lenS ?_ | with_reducible refine ed_inS ?_ | with_reducible refine ed_itT ?_ | with_reducible refine ed_itL ?_ | with_reducible refine ed_tupL ?_ | with_reducible refine ed_tupT ?_ | with_reducible refine ed_listL ?_ | with_reducible refine ed_listT ?_ | with_reducible refine ed_neg ?_ | with_reducible refine ed_max ?_ | with_reducible refine ed_min ?_ | with_reducible refine ed_intB ?_
  | with_reducible refine ev_rng1 ?_ | with_reducible refine ev_rng2 ?_)
local macro_rules | `(tactic| walk_at "sd") => `(tactic| first | rfl | assumption | (simp only [decide_eq_true_eq, decide_eq_false_iff_not, Bool.not_eq_true', Bool.not_eq_false', Bool.and_eq_true, Bool.or_eq_true, List.length_map, List.length_cons, List.length_nil, List.length_append, List.length_range] at *; omega))
local macro_rules | `(tactic| walk_at "e2") => `(tactic| first
  | walk_at "e1" | with_reducible refine ⟨_, rfl, ?_⟩ | with_reducible refine ⟨_, _, rfl, ?_⟩
  | with_reducible refine And.intro (Eq.refl (List.length _)) ?_ | with_reducible refine And.intro (Nat.le_of_ble_eq_true (n := List.length _) rfl) ?_
  | with_reducible refine And.intro (Eq.refl (_ : Sx)) (?_ : Ed _ _)
  | ((with_reducible refine And.intro ?_ (And.intro ?_ (?_ : Ev _ _))); (· rfl); (· rfl))
  | ((with_reducible refine ed_ixT ?_ ?_ ?_); (· decide); (· rfl)) | ((with_reducible refine ed_ixL ?_ ?_ ?_); (· decide); (· rfl)) | ((with_reducible refine ed_at ?_ ?_ ?_); (· decide); (· rfl))
  | ((with_reducible refine ed_modI ?_ ?_); (· first | decide | omega))
  | with_reducible exact gives_nx | ((with_reducible refine gives_rt ?_); (· rfl)) | ((with_reducible refine And.intro ?_ ?_); (· exact rfl); (· with_reducible exact Eq.refl (_ : Sx))))
local macro_rules | `(tactic| walk_at "e") => `(tactic| repeat walk_at "e2")
/-- begin a def's spec -/
local macro_rules | `(tactic| walk_at "i") => `(tactic| simp only [initS, List.map_cons, List.map_nil, List.length_cons, List.length_nil, Nat.reduceAdd, Nat.reduceSub, List.replicate, List.cons_append, List.nil_append])
/-- a known truth decides -/
local macro_rules | `(tactic| walk_at "t") => `(tactic| first | ((with_reducible refine split_t ?_ ?_); (· walk_at "sd")) | ((with_reducible refine split_t' ?_ ?_); (· walk_at "sd")))
local macro_rules | `(tactic| walk_at "f") => `(tactic| first | ((with_reducible refine split_f ?_ ?_); (· walk_at "sd")) | ((with_reducible refine split_f' ?_ ?_); (· walk_at "sd")))
/-- all that is seen in a look -/
local macro_rules | `(tactic| walk_at "v") => `(tactic| (rw [sealAll_mk (by (simp only [List.set_cons_zero, List.set_cons_succ, List.map_cons, List.map_nil, sealS_none, sealS_dat, sealS_scr, sealS_own, List.getElem?_cons_zero, List.getElem?_cons_succ, sealC_lst]; rfl)) (by (simp only [List.set_cons_zero, List.set_cons_succ, List.map_cons, List.map_nil]; rfl))]))
namespace Gr
/-! #### the greatest count -/
end Gr
end Lw

set_option maxHeartbeats 4000000
namespace Lw
open PySem Fu
local macro_rules | `(tactic| walk_at "e1") => `(tactic| first
  | with_reducible refine eo_seq ?_ | (with_reducible refine then_nx' ?_; refine ⟨?_, ?_, ?_⟩; rotate_left; · (try dsimp only [List.set, List.length_cons, List.length_nil, List.cons_append, List.nil_append, Nat.zero_add, Nat.reduceAdd]); exact rfl) | with_reducible refine then_rt ?_ | with_reducible refine eo_if ?_ | with_reducible refine eo_ret ?_ | with_reducible refine eo_set ?_ | with_reducible refine eo_asg ?_ | with_reducible refine eo_drop ?_ | with_reducible refine eo_nx ?_ | with_reducible refine eo_par ?_ | with_reducible refine eo_own ?_ | with_reducible refine eo_retN ?_ | with_reducible refine eo_for ?_ | with_reducible refine eo_retO ?_
  | with_reducible refine ev_c ?_ | (with_reducible refine ev_var ?_; refine ⟨_, rfl, ?_⟩) | with_reducible refine ev_bin ?_ | with_reducible refine ev_un ?_ | with_reducible refine ev_nil ?_ | with_reducible refine ev_cons ?_
  | with_reducible refine ev_tup ?_ | with_reducible refine ev_lst ?_ | with_reducible refine ev_call ?_ | with_reducible refine ev_callF ?_ | with_reducible refine ev_isi ?_ | with_reducible refine ev_isi2 ?_ | with_reducible refine ev_andV ?_ | with_reducible refine ev_orV ?_ | with_reducible refine ev_notV ?_
  | with_reducible refine ev_B ?_ | with_reducible refine ev_and ?_ | with_reducible refine ev_or ?_ | with_reducible refine ev_not ?_ | with_reducible refine ev_yes ?_ | with_reducible refine ev_if ?_ | with_reducible refine ev_no ?_ | with_reducible refine ev_so ?_ | with_reducible refine ev_sl ?_ | with_reducible refine ev_items ?_
  | (with_reducible refine ev_ixO ?_; refine ⟨_, _, rfl, rfl, ?_⟩) | (with_reducible refine ev_varO ?_; refine ⟨_, _, rfl, rfl, ?_⟩) | (with_reducible refine ev_lenO ?_; refine ⟨_, _, rfl, rfl, ?_⟩) | (with_reducible refine ev_scrSl ?_; refine ⟨_, rfl, ?_⟩) | (with_reducible refine ev_scrLen ?_; refine ⟨_, rfl, ?_⟩) | (with_reducible refine ev_callScr ?_; refine ⟨_, rfl, ?_⟩) | (with_reducible refine ev_OL ?_; refine ⟨_, _, rfl, rfl, ?_⟩) | with_reducible refine ev_OR ?_ | with_reducible refine ev_rep ?_ | with_reducible refine ev_listRng1 ?_ | with_reducible refine eo_setO ?_
  | with_reducible refine es_name ?_ | with_reducible refine es_tup2 ?_ | with_reducible refine es_tup3 ?_
  | with_reducible refine ed_addI ?_ | with_reducible refine ed_subI ?_ | with_reducible refine ed_cmp ?_ | with_reducible refine ed_eqI ?_ | with_reducible refine ed_neI ?_ | with_reducible refine ed_slT ?_ | with_reducible refine ed_slL ?_ | with_reducible refine ed_lenT ?_ | with_reducible refine ed_lenL ?_ | with_reducible refine ed_lenS ?_ | with_reducible refine ed_inS ?_ | with_reducible refine ed_itT ?_ | with_reducible refine ed_itL ?_ | with_reducible refine ed_tupL ?_ | with_reducible refine ed_tupT ?_ | with_reducible refine ed_listL ?_ | with_reducible refine ed_listT ?_ | with_reducible refine ed_neg ?_ | with_reducible refine ed_max ?_ | with_reducible refine ed_min ?_ | with_reducible refine ed_intB ?_
  | with_reducible refine ev_rng1 ?_ | with_reducible refine ev_rng2 ?_)
local macro_rules | `(tactic| walk_at "sd") => `(tactic| first | rfl | assumption | (simp only [decide_eq_true_eq, decide_eq_false_iff_not, Bool.not_eq_true', Bool.not_eq_false', Bool.and_eq_true, Bool.or_eq_true, List.length_map, List.length_cons, List.length_nil, List.length_append, List.length_range] at *; omega))
local macro_rules | `(tactic| walk_at "e2") => `(tactic| first
  | walk_at "e1" | with_reducible refine ⟨_, rfl, ?_⟩ | with_reducible refine ⟨_, _, rfl, ?_⟩
  | with_reducible refine And.intro (Eq.refl (List.length _)) ?_ | with_reducible refine And.intro (Nat.le_of_ble_eq_true (n := List.length _) rfl) ?_
  | with_reducible refine And.intro (Eq.refl (_ : Sx)) (?_ : Ed _ _)
  | ((with_reducible refine And.intro ?_ (And.intro ?_ (?_ : Ev _ _))); (· rfl); (· rfl))
  | ((with_reducible refine ed_ixT ?_ ?_ ?_); (· decide); (· rfl)) | ((with_reducible refine ed_ixL ?_ ?_ ?_); (· decide); (· rfl)) | ((with_reducible refine ed_at ?_ ?_ ?_); (· decide); (· rfl))
  | ((with_reducible refine ed_modI ?_ ?_); (· first | decide | omega))
  | with_reducible exact gives_nx | ((with_reducible refine gives_rt ?_); (· rfl)) | ((with_reducible refine And.intro ?_ ?_); (· exact rfl); (· with_reducible exact Eq.refl (_ : Sx))))
local macro_rules | `(tactic| walk_at "e") => `(tactic| repeat walk_at "e2")
/-- begin a def's spec -/
local macro_rules | `(tactic| walk_at "i") => `(tactic| simp only [initS, List.map_cons, List.map_nil, List.length_cons, List.length_nil, Nat.reduceAdd, Nat.reduceSub, List.replicate, List.cons_append, List.nil_append])
/-- a known truth decides -/
local macro_rules | `(tactic| walk_at "t") => `(tactic| first | ((with_reducible refine split_t ?_ ?_); (· walk_at "sd")) | ((with_reducible refine split_t' ?_ ?_); (· walk_at "sd")))
local macro_rules | `(tactic| walk_at "f") => `(tactic| first | ((with_reducible refine split_f ?_ ?_); (· walk_at "sd")) | ((with_reducible refine split_f' ?_ ?_); (· walk_at "sd")))
/-- all that is seen in a look -/
local macro_rules | `(tactic| walk_at "v") => `(tactic| (rw [sealAll_mk (by (simp only [List.set_cons_zero, List.set_cons_succ, List.map_cons, List.map_nil, sealS_none, sealS_dat, sealS_scr, sealS_own, List.getElem?_cons_zero, List.getElem?_cons_succ, sealC_lst]; rfl)) (by (simp only [List.set_cons_zero, List.set_cons_succ, List.map_cons, List.map_nil]; rfl))]))
namespace Gr
/-! #### all places together -/
end Gr
end Lw

set_option maxHeartbeats 4000000
namespace Lw
open PySem Fu
local macro_rules | `(tactic| walk_at "e1") => `(tactic| first
  | with_reducible refine eo_seq ?_ | (with_reducible refine then_nx' ?_; refine ⟨?_, ?_, ?_⟩; rotate_left; · (try dsimp only [List.set, List.length_cons, List.length_nil, List.cons_append, List.nil_append, Nat.zero_add, Nat.reduceAdd]); exact rfl) | with_reducible refine then_rt ?_ | with_reducible refine eo_if ?_ | with_reducible refine eo_ret ?_ | with_reducible refine eo_set ?_ | with_reducible refine eo_asg ?_ | with_reducible refine eo_drop ?_ | with_reducible refine eo_nx ?_ | with_reducible refine eo_par ?_ | with_reducible refine eo_own ?_ | with_reducible refine eo_retN ?_ | with_reducible refine eo_for ?_ | with_reducible refine eo_retO ?_
  | with_reducible refine ev_c ?_ | (with_reducible refine ev_var ?_; refine ⟨_, rfl, ?_⟩) | with_reducible refine ev_bin ?_ | with_reducible refine ev_un ?_ | with_reducible refine ev_nil ?_ | with_reducible refine ev_cons ?_
  | with_reducible refine ev_tup ?_ | with_reducible refine ev_lst ?_ | with_reducible refine ev_call ?_ | with_reducible refine ev_callF ?_ | with_reducible refine ev_isi ?_ | with_reducible refine ev_isi2 ?_ | with_reducible refine ev_andV ?_ | with_reducible refine ev_orV ?_ | with_reducible refine ev_notV ?_
  | with_reducible refine ev_B ?_ | with_reducible refine ev_and ?_ | with_reducible refine ev_or ?_ | with_reducible refine ev_not ?_ | with_reducible refine ev_yes ?_ | with_reducible refine ev_if ?_ | with_reducible refine ev_no ?_ | with_reducible refine ev_so ?_ | with_reducible refine ev_sl ?_ | with_reducible refine ev_items ?_
  | (with_reducible refine ev_ixO ?_; refine ⟨_, _, rfl, rfl, ?_⟩) | (with_reducible refine ev_varO ?_; refine ⟨_, _, rfl, rfl, ?_⟩) | (with_reducible refine ev_lenO ?_; refine ⟨_, _, rfl, rfl, ?_⟩) | (with_reducible refine ev_scrSl ?_; refine ⟨_, rfl, ?_⟩) | (with_reducible refine ev_scrLen ?_; refine ⟨_, rfl, ?_⟩) | (with_reducible refine ev_callScr ?_; refine ⟨_, rfl, ?_⟩) | (with_reducible refine ev_OL ?_; refine ⟨_, _, rfl, rfl, ?_⟩) | with_reducible refine ev_OR ?_ | with_reducible refine ev_rep ?_ | with_reducible refine ev_listRng1 ?_ | with_reducible refine eo_setO ?_
  | with_reducible refine es_name ?_ | with_reducible refine es_tup2 ?_ | with_reducible refine es_tup3 ?_
  | with_reducible refine ed_addI ?_ | with_reducible refine ed_subI ?_ | with_reducible refine ed_cmp ?_ | with_reducible refine ed_eqI ?_ | with_reducible refine ed_neI ?_ | with_reducible refine ed_slT ?_ | with_reducible refine ed_slL ?_ | with_reducible refine ed_lenT ?_ | with_reducible refine ed_lenL ?_ | with_reducible refine ed_lenS ?_ | with_reducible refine ed_inS ?_ | with_reducible refine ed_itT ?_ | with_reducible refine ed_itL ?_ | with_reducible refine ed_tupL ?_ | with_reducible refine ed_tupT ?_ | with_reducible refine ed_listL ?_ | with_reducible refine ed_listT ?_ | with_reducible refine ed_neg ?_ | with_reducible refine ed_max ?_ | with_reducible refine ed_min ?_ | with_reducible refine ed_intB ?_
  | with_reducible refine ev_rng1 ?_ | with_reducible refine ev_rng2 ?_)
local macro_rules | `(tactic| walk_at "sd") => `(tactic| first | rfl | assumption | (simp only [decide_eq_true_eq, decide_eq_false_iff_not, Bool.not_eq_true', Bool.not_eq_false', Bool.and_eq_true, Bool.or_eq_true, List.length_map, List.length_cons, List.length_nil, List.length_append, List.length_range] at *; omega))
local macro_rules | `(tactic| walk_at "e2") => `(tactic| first
  | walk_at "e1" | with_reducible refine ⟨_, rfl, ?_⟩ | with_reducible refine ⟨_, _, rfl, ?_⟩
  | with_reducible refine And.intro (Eq.refl (List.length _)) ?_ | with_reducible refine And.intro (Nat.le_of_ble_eq_true (n := List.length _) rfl) ?_
  | with_reducible refine And.intro (Eq.refl (_ : Sx)) (?_ : Ed _ _)
  | ((with_reducible refine And.intro ?_ (And.intro ?_ (?_ : Ev _ _))); (· rfl); (· rfl))
  | ((with_reducible refine ed_ixT ?_ ?_ ?_); (· decide); (· rfl)) | ((with_reducible refine ed_ixL ?_ ?_ ?_); (· decide); (· rfl)) | ((with_reducible refine ed_at ?_ ?_ ?_); (· decide); (· rfl))
  | ((with_reducible refine ed_modI ?_ ?_); (· first | decide | omega))
  | with_reducible exact gives_nx | ((with_reducible refine gives_rt ?_); (· rfl)) | ((with_reducible refine And.intro ?_ ?_); (· exact rfl); (· with_reducible exact Eq.refl (_ : Sx))))
local macro_rules | `(tactic| walk_at "e") => `(tactic| repeat walk_at "e2")
/-- begin a def's spec -/
local macro_rules | `(tactic| walk_at "i") => `(tactic| simp only [initS, List.map_cons, List.map_nil, List.length_cons, List.length_nil, Nat.reduceAdd, Nat.reduceSub, List.replicate, List.cons_append, List.nil_append])
/-- a known truth decides -/
local macro_rules | `(tactic| walk_at "t") => `(tactic| first | ((with_reducible refine split_t ?_ ?_); (· walk_at "sd")) | ((with_reducible refine split_t' ?_ ?_); (· walk_at "sd")))
local macro_rules | `(tactic| walk_at "f") => `(tactic| first | ((with_reducible refine split_f ?_ ?_); (· walk_at "sd")) | ((with_reducible refine split_f' ?_ ?_); (· walk_at "sd")))
/-- all that is seen in a look -/
local macro_rules | `(tactic| walk_at "v") => `(tactic| (rw [sealAll_mk (by (simp only [List.set_cons_zero, List.set_cons_succ, List.map_cons, List.map_nil, sealS_none, sealS_dat, sealS_scr, sealS_own, List.getElem?_cons_zero, List.getElem?_cons_succ, sealC_lst]; rfl)) (by (simp only [List.set_cons_zero, List.set_cons_succ, List.map_cons, List.map_nil]; rfl))]))
namespace Pt
/-! ### marks carried along lines -/
def mstep (f : Int → Int) (l : Ln) : Int → Int := fun q => if q = l.1 ∨ q = l.2.1 then min (f l.1) (f l.2.1) else f q
def mround (ls : List Ln) (f : Int → Int) : Int → Int := ls.foldl mstep f
def mrounds (ls : List Ln) : Nat → Int → Int
  | 0 => fun q => q
  | t + 1 => mround ls (mrounds ls t)
/-- the least place that hangs together with a place -/
def cm (p : Int) (ls : List Ln) : Int → Int := mrounds ls p.toNat
theorem mstep_le (f : Int → Int) (l : Ln) (q : Int) : mstep f l q ≤ f q := by
  unfold mstep
  split
  · rename_i h
    rcases h with h | h <;> subst h <;> omega
  · exact Int.le_refl _
theorem mround_le : ∀ (ls : List Ln) (f : Int → Int) (q : Int), mround ls f q ≤ f q
  | [], f, q => Int.le_refl _
  | l :: ls, f, q => Int.le_trans (mround_le ls (mstep f l) q) (mstep_le f l q)
theorem mrounds_le (ls : List Ln) : ∀ (t : Nat) (q : Int), mrounds ls t q ≤ q
  | 0, _ => Int.le_refl _
  | t + 1, q => Int.le_trans (mround_le ls _ q) (mrounds_le ls t q)
theorem mround_nn {ls : List Ln} (h : ∀ l ∈ ls, 0 ≤ l.1 ∧ 0 ≤ l.2.1) {f : Int → Int} (hf : ∀ q, 0 ≤ q → 0 ≤ f q) : ∀ q, 0 ≤ q → 0 ≤ mround ls f q := by
  induction ls generalizing f with
  | nil => exact hf
  | cons l ls ih =>
    refine ih (fun k hk => h k (List.mem_cons_of_mem _ hk)) (f := mstep f l) fun q hq => ?_
    obtain ⟨a, b⟩ := h l List.mem_cons_self
    unfold mstep
    have := hf _ a
    have := hf _ b
    split
    · omega
    · exact hf q hq
theorem mrounds_nn {ls : List Ln} (h : ∀ l ∈ ls, 0 ≤ l.1 ∧ 0 ≤ l.2.1) : ∀ (t : Nat) (q : Int), 0 ≤ q → 0 ≤ mrounds ls t q
  | 0, _, hq => hq
  | t + 1, q, hq => mround_nn h (mrounds_nn h t) q hq
def Cl (ls : List Ln) (Q : Int → Prop) : Prop := ∀ l ∈ ls, Q l.1 ↔ Q l.2.1
/-- marks stay within what is closed -/
theorem mround_in {ls : List Ln} {Q : Int → Prop} (h : Cl ls Q) {f : Int → Int} (hf : ∀ q, Q (f q) ↔ Q q) : ∀ q, Q (mround ls f q) ↔ Q q := by
  induction ls generalizing f with
  | nil => exact hf
  | cons l ls ih =>
    refine ih (fun k hk => h k (List.mem_cons_of_mem _ hk)) (f := mstep f l) fun q => ?_
    have hl := h l List.mem_cons_self
    have h1 := hf l.1
    have h2 := hf l.2.1
    unfold mstep
    split
    · rename_i hq
      have e : Q (min (f l.1) (f l.2.1)) ↔ Q l.1 := by
        rcases Int.le_total (f l.1) (f l.2.1) with z | z
        · rw [Int.min_eq_left z]; exact h1
        · rw [Int.min_eq_right z]; exact h2.trans hl.symm
      rcases hq with hq | hq
      · rw [hq]; exact e
      · rw [hq]; exact e.trans hl
    · exact hf q
theorem mrounds_in {ls : List Ln} {Q : Int → Prop} (h : Cl ls Q) : ∀ (t : Nat) (q : Int), Q (mrounds ls t q) ↔ Q q
  | 0, _ => Iff.rfl
  | t + 1, q => mround_in h (mrounds_in h t) q
theorem cm_in {p : Int} {ls : List Ln} {Q : Int → Prop} (h : Cl ls Q) (q : Int) : Q (cm p ls q) ↔ Q q := mrounds_in h _ q
theorem cm_sep {p : Int} {ls : List Ln} {Q : Int → Prop} (h : Cl ls Q) {a b : Int} (e : cm p ls a = cm p ls b) : Q a ↔ Q b :=
  (cm_in (p := p) h a).symm.trans (e ▸ cm_in (p := p) h b)
/-- where the marks under m are closed, nothing changes there -/
theorem mround_cl {ls : List Ln} {f g : Int → Int} {m : Int} (h : Cl ls fun q => f q ≤ m) (hg : ∀ q, g q ≤ m ↔ f q ≤ m) : ∀ q, mround ls g q ≤ m ↔ f q ≤ m := by
  induction ls generalizing g with
  | nil => exact hg
  | cons l ls ih =>
    refine ih (fun k hk => h k (List.mem_cons_of_mem _ hk)) (g := mstep g l) fun q => ?_
    have hl := h l List.mem_cons_self
    simp only at hl
    have h1 := hg l.1
    have h2 := hg l.2.1
    unfold mstep
    split
    · rename_i hq
      have e : min (g l.1) (g l.2.1) ≤ m ↔ f l.1 ≤ m := by
        rcases Int.le_total (g l.1) (g l.2.1) with z | z
        · rw [Int.min_eq_left z]; exact h1
        · rw [Int.min_eq_right z]; exact h2.trans hl.symm
      rcases hq with hq | hq
      · rw [hq]; exact e
      · rw [hq]; exact e.trans hl
    · exact hg q
/-- where they are not, one place more comes in -/
theorem mround_op {ls : List Ln} {f : Int → Int} {m : Int} (h : ¬ Cl ls fun q => f q ≤ m) : ∃ l ∈ ls, ∃ q, (q = l.1 ∨ q = l.2.1) ∧ mround ls f q ≤ m ∧ ¬ f q ≤ m := by
  have h2 : ∃ l ∈ ls, ¬ (f l.1 ≤ m ↔ f l.2.1 ≤ m) := by
    refine Classical.byContradiction fun z => h fun l hl => Classical.byContradiction fun y => z ⟨l, hl, y⟩
  obtain ⟨l, hl, hn⟩ := h2
  obtain ⟨xs, ys, rfl⟩ := List.append_of_mem hl
  have key : ∀ q, (q = l.1 ∨ q = l.2.1) → (f l.1 ≤ m ∨ f l.2.1 ≤ m) → mround (xs ++ l :: ys) f q ≤ m := by
    intro q hq ho
    have e : mround (xs ++ l :: ys) f q = mround ys (mstep (mround xs f) l) q := by
      unfold mround
      rw [List.foldl_append, List.foldl_cons]
    rw [e]
    refine Int.le_trans (mround_le ys _ q) ?_
    unfold mstep
    rw [if_pos hq]
    have a := mround_le xs f l.1
    have b := mround_le xs f l.2.1
    omega
  by_cases h1 : f l.1 ≤ m
  · refine ⟨l, hl, l.2.1, .inr rfl, key _ (.inr rfl) (.inl h1), fun z => hn ⟨fun _ => z, fun _ => h1⟩⟩
  · by_cases h2 : f l.2.1 ≤ m
    · exact ⟨l, hl, l.1, .inl rfl, key _ (.inl rfl) (.inr h2), h1⟩
    · exact absurd ⟨fun z => absurd z h1, fun z => absurd z h2⟩ hn
def cnt (n : Nat) (f : Int → Int) (m : Int) : Nat := (List.range n).countP fun i : Nat => decide (f i ≤ m)
theorem countP_lt {α : Type} {P Q : α → Bool} : ∀ {l : List α} {x : α}, (∀ y ∈ l, P y = true → Q y = true) → x ∈ l → P x = false → Q x = true → l.countP P + 1 ≤ l.countP Q
  | [], x, _, hx, _, _ => nomatch hx
  | y :: l, x, h, hx, h1, h2 => by
    rcases List.mem_cons.mp hx with z | z
    · subst z
      rw [List.countP_cons_of_neg (by rw [h1]; decide), List.countP_cons_of_pos h2]
      have := List.countP_mono_left (l := l) (p := P) (q := Q) fun y hy => h y (List.mem_cons_of_mem _ hy)
      omega
    · have := countP_lt (fun y hy => h y (List.mem_cons_of_mem _ hy)) z h1 h2
      rw [List.countP_cons, List.countP_cons]
      have hy := h y List.mem_cons_self
      cases e1 : P y
      · simp; omega
      · rw [hy e1]; simp; omega
theorem cl_or {n : Nat} {ls : List Ln} (h : ∀ l ∈ ls, 0 ≤ l.1 ∧ l.1 < n ∧ 0 ≤ l.2.1 ∧ l.2.1 < n) (m : Int) : ∀ t : Nat, (Cl ls fun q => mrounds ls t q ≤ m) ∨ t + cnt n (mrounds ls 0) m ≤ cnt n (mrounds ls t) m
  | 0 => .inr (by omega)
  | t + 1 => by
    by_cases hc : Cl ls fun q => mrounds ls t q ≤ m
    · refine .inl ?_
      have := mround_cl hc (g := mrounds ls t) fun q => Iff.rfl
      intro l hl
      simp only [mrounds]
      exact (this l.1).trans ((hc l hl).trans (this l.2.1).symm)
    · rcases cl_or h m t with z | z
      · exact absurd z hc
      · refine .inr ?_
        obtain ⟨l, hl, q, hq, q1, q2⟩ := mround_op hc
        obtain ⟨a0, a1, b0, b1⟩ := h l hl
        have hq' : 0 ≤ q ∧ q < n := by rcases hq with hq | hq <;> subst hq <;> exact ⟨by assumption, by assumption⟩
        have e : ((q.toNat : Nat) : Int) = q := by omega
        have := countP_lt (l := List.range n) (P := fun i : Nat => decide (mrounds ls t i ≤ m)) (Q := fun i : Nat => decide (mrounds ls (t + 1) i ≤ m)) (x := q.toNat)
          (fun y _ hy => decide_eq_true (Int.le_trans (mround_le ls _ _) (of_decide_eq_true hy))) (List.mem_range.mpr (by omega)) (by rw [e]; exact decide_eq_false q2) (by rw [e]; exact decide_eq_true q1)
        unfold cnt at z ⊢
        omega
/-- marks are alike along lines in the end -/
theorem cm_line {p : Int} {ls : List Ln} (h : ∀ l ∈ ls, 0 ≤ l.1 ∧ l.1 < p ∧ 0 ≤ l.2.1 ∧ l.2.1 < p) {l : Ln} (hl : l ∈ ls) : cm p ls l.1 = cm p ls l.2.1 := by
  have hp : ((p.toNat : Nat) : Int) = p := by have := h l hl; omega
  have h' : ∀ l ∈ ls, 0 ≤ l.1 ∧ l.1 < (p.toNat : Nat) ∧ 0 ≤ l.2.1 ∧ l.2.1 < (p.toNat : Nat) := by rw [hp]; exact h
  have hnn : ∀ l ∈ ls, 0 ≤ l.1 ∧ 0 ≤ l.2.1 := fun l hl => ⟨(h l hl).1, (h l hl).2.2.1⟩
  have key : ∀ m : Int, 0 ≤ m → Cl ls fun q => cm p ls q ≤ m := by
    intro m hm
    rcases cl_or h' m p.toNat with z | z
    · exact z
    · have h1 : cnt p.toNat (mrounds ls p.toNat) m ≤ p.toNat := by
        unfold cnt
        have := List.countP_le_length (p := fun i : Nat => decide (mrounds ls p.toNat i ≤ m)) (l := List.range p.toNat)
        rwa [List.length_range] at this
      have h2 : 0 < cnt p.toNat (mrounds ls 0) m := by
        unfold cnt
        refine List.countP_pos_iff.mpr ⟨0, List.mem_range.mpr ?_, decide_eq_true hm⟩
        have := h l hl
        omega
      omega
  obtain ⟨a0, a1, b0, b1⟩ := h l hl
  have n1 := mrounds_nn hnn p.toNat _ a0
  have n2 := mrounds_nn hnn p.toNat _ b0
  exact Int.le_antisymm ((key _ n2 l hl).mpr (Int.le_refl _)) ((key _ n1 l hl).mp (Int.le_refl _))
/-! ### parts, line by line -/
def lat (ls : List Ln) (i : Nat) : Ln := ls.getD i (0, 0, 0)
theorem lat_of {ls : List Ln} {i : Nat} {l : Ln} (h : ls[i]? = some l) : lat ls i = l := by unfold lat; rw [List.getD_eq_getElem?_getD, h]; rfl
theorem lat_at {ls : List Ln} {i : Nat} (h : i < ls.length) : ls[i]? = some (lat ls i) := by rw [lat_of (List.getElem?_eq_getElem h)]; exact List.getElem?_eq_getElem h
theorem lat_mem {ls : List Ln} {i : Nat} (h : i < ls.length) : lat ls i ∈ ls := List.mem_of_getElem? (lat_at h)
def met (ls : List Ln) (part : List Nat) : List Int := part.flatMap fun i => [(lat ls i).1, (lat ls i).2.1]
def hang (ls : List Ln) (part : List Nat) (i : Nat) : Bool := decide ((lat ls i).1 ∈ met ls part ∨ (lat ls i).2.1 ∈ met ls part)
def clr (p : Int) (ls : List Ln) (i : Nat) : Int := cm p ls (lat ls i).1
theorem mem_met {ls : List Ln} {part : List Nat} {q : Int} : q ∈ met ls part ↔ ∃ i ∈ part, q = (lat ls i).1 ∨ q = (lat ls i).2.1 := by
  unfold met
  rw [List.mem_flatMap]
  simp only [List.mem_cons, List.not_mem_nil, or_false]
theorem met_clr {p : Int} {ls : List Ln} (h : ∀ l ∈ ls, 0 ≤ l.1 ∧ l.1 < p ∧ 0 ≤ l.2.1 ∧ l.2.1 < p) {i : Nat} (hi : i < ls.length) {q : Int} (hq : q = (lat ls i).1 ∨ q = (lat ls i).2.1) : cm p ls q = clr p ls i := by
  rcases hq with hq | hq
  · rw [hq]; rfl
  · rw [hq]; exact (cm_line h (lat_mem hi)).symm
structure Inn (p : Int) (ls : List Ln) (L : List Nat) (s : Nat) (part left more : List Nat) : Prop where
  left_eq : left = L.filter fun i => decide (i ∉ part)
  sub : ∀ i ∈ part, i ∈ L ∧ clr p ls i = clr p ls s
  nd : part.Nodup
  more_eq : (part = [] ∧ more = [s]) ∨ (s ∈ part ∧ more = left.filter (hang ls part))
section
variable {p : Int} {ls : List Ln} {L : List Nat} {s : Nat} {part left more : List Nat}
theorem Inn.more_sub (I : Inn p ls L s part left more) (hs : s ∈ L) : ∀ i ∈ more, i ∈ left := by
  intro i hi
  rcases I.more_eq with ⟨h1, h2⟩ | ⟨_, h2⟩
  · rw [h2] at hi
    rw [List.mem_singleton.mp hi, I.left_eq, h1, List.mem_filter]
    exact ⟨hs, by simp⟩
  · rw [h2] at hi
    exact (List.mem_filter.mp hi).1
theorem Inn.more_nd (I : Inn p ls L s part left more) (hL : L.Nodup) : more.Nodup := by
  rcases I.more_eq with ⟨_, h2⟩ | ⟨_, h2⟩
  · rw [h2]; exact List.nodup_cons.mpr ⟨List.not_mem_nil, List.nodup_nil⟩
  · rw [h2, I.left_eq]; exact (hL.filter _).filter _
theorem Inn.more_clr (h : ∀ l ∈ ls, 0 ≤ l.1 ∧ l.1 < p ∧ 0 ≤ l.2.1 ∧ l.2.1 < p) (hn : ∀ i ∈ L, i < ls.length) (I : Inn p ls L s part left more) : ∀ i ∈ more, clr p ls i = clr p ls s := by
  intro i hi
  rcases I.more_eq with ⟨_, h2⟩ | ⟨_, h2⟩
  · rw [h2] at hi
    rw [List.mem_singleton.mp hi]
  · rw [h2, I.left_eq] at hi
    obtain ⟨h3, h4⟩ := List.mem_filter.mp hi
    have hiL := hn i (List.mem_filter.mp h3).1
    have key : ∀ q, (q = (lat ls i).1 ∨ q = (lat ls i).2.1) → q ∈ met ls part → clr p ls i = clr p ls s := by
      intro q hq hm
      obtain ⟨j, hj, hqj⟩ := mem_met.mp hm
      obtain ⟨j1, j2⟩ := I.sub j hj
      rw [← met_clr h hiL hq, met_clr h (hn j j1) hqj, j2]
    rcases of_decide_eq_true h4 with z | z
    · exact key _ (.inl rfl) z
    · exact key _ (.inr rfl) z
theorem Inn.step (h : ∀ l ∈ ls, 0 ≤ l.1 ∧ l.1 < p ∧ 0 ≤ l.2.1 ∧ l.2.1 < p) (hn : ∀ i ∈ L, i < ls.length) (hL : L.Nodup) (hs : s ∈ L) (I : Inn p ls L s part left more) (hm : more ≠ []) :
    Inn p ls L s (part ++ more) (left.filter fun i => decide (i ∉ more)) ((left.filter fun i => decide (i ∉ more)).filter (hang ls (part ++ more))) ∧ (left.filter fun i => decide (i ∉ more)).length < left.length := by
  have hsub := I.more_sub hs
  refine ⟨⟨?_, ?_, ?_, .inr ⟨?_, rfl⟩⟩, ?_⟩
  · rw [I.left_eq, List.filter_filter]
    refine List.filter_congr fun i _ => ?_
    by_cases a : i ∈ part <;> by_cases b : i ∈ more <;> simp [a, b]
  · intro i hi
    rcases List.mem_append.mp hi with z | z
    · exact I.sub i z
    · have := hsub i z
      rw [I.left_eq] at this
      exact ⟨(List.mem_filter.mp this).1, I.more_clr h hn i z⟩
  · refine List.nodup_append.mpr ⟨I.nd, I.more_nd hL, fun a ha b hb e => ?_⟩
    subst e
    have := hsub a hb
    rw [I.left_eq] at this
    exact of_decide_eq_true (List.mem_filter.mp this).2 ha
  · rcases I.more_eq with ⟨_, h2⟩ | ⟨h1, _⟩
    · rw [h2]; exact List.mem_append.mpr (.inr (List.mem_singleton.mpr rfl))
    · exact List.mem_append.mpr (.inl h1)
  · obtain ⟨x, hx⟩ := List.exists_mem_of_ne_nil _ hm
    have h1 := hsub x hx
    refine Nat.lt_of_le_of_ne (List.length_filter_le _ _) fun e => ?_
    have := List.length_filter_eq_length_iff.mp e x h1
    exact of_decide_eq_true this hx
theorem Inn.start (hs : s ∈ L) : Inn p ls L s [] L [s] := ⟨by rw [List.filter_eq_self.mpr (fun a _ => by simp)], (fun i hi => nomatch hi), List.nodup_nil, .inl ⟨rfl, rfl⟩⟩
/-- what the inner loop leaves -/
theorem Inn.done (h : ∀ l ∈ ls, 0 ≤ l.1 ∧ l.1 < p ∧ 0 ≤ l.2.1 ∧ l.2.1 < p) (hn : ∀ i ∈ L, i < ls.length) (hc : ∀ i, i < ls.length → clr p ls i = clr p ls s → i ∈ L) (hs : s ∈ L) (I : Inn p ls L s part left []) :
    (∀ i, i ∈ part ↔ i < ls.length ∧ clr p ls i = clr p ls s) ∧ left = L.filter fun i => decide (clr p ls i ≠ clr p ls s) := by
  obtain ⟨hsp, hm⟩ : s ∈ part ∧ ([] : List Nat) = left.filter (hang ls part) := by
    rcases I.more_eq with ⟨_, h2⟩ | h2
    · cases h2
    · exact h2
  have key : ∀ i, i < ls.length → (∃ q, (q = (lat ls i).1 ∨ q = (lat ls i).2.1) ∧ q ∈ met ls part) → i ∈ part := by
    rintro i hi ⟨q, hq, hqm⟩
    obtain ⟨j, hj, hqj⟩ := mem_met.mp hqm
    obtain ⟨j1, j2⟩ := I.sub j hj
    have hiL : i ∈ L := hc i hi (by rw [← met_clr h hi hq, met_clr h (hn j j1) hqj, j2])
    refine Classical.byContradiction fun z => ?_
    have : i ∈ left.filter (hang ls part) := by
      rw [I.left_eq]
      refine List.mem_filter.mpr ⟨List.mem_filter.mpr ⟨hiL, decide_eq_true z⟩, decide_eq_true ?_⟩
      rcases hq with hq | hq
      · exact .inl (hq ▸ hqm)
      · exact .inr (hq ▸ hqm)
    rw [← hm] at this
    cases this
  have cl : Cl ls fun q => q ∈ met ls part := by
    intro l hl
    obtain ⟨i, hi, e⟩ := List.getElem_of_mem hl
    have el : lat ls i = l := lat_of (by rw [List.getElem?_eq_getElem hi, e])
    constructor
    · intro hq
      exact mem_met.mpr ⟨i, key i hi ⟨_, .inl (by rw [el]), hq⟩, .inr (by rw [el])⟩
    · intro hq
      exact mem_met.mpr ⟨i, key i hi ⟨_, .inr (by rw [el]), hq⟩, .inl (by rw [el])⟩
  have h1 : ∀ i, i ∈ part ↔ i < ls.length ∧ clr p ls i = clr p ls s := by
    intro i
    constructor
    · intro hi
      obtain ⟨a, b⟩ := I.sub i hi
      exact ⟨hn i a, b⟩
    · rintro ⟨hi, e⟩
      exact key i hi ⟨_, .inl rfl, (cm_sep cl e).mpr (mem_met.mpr ⟨s, hsp, .inl rfl⟩)⟩
  refine ⟨h1, ?_⟩
  rw [I.left_eq]
  refine List.filter_congr fun i hi => ?_
  have := h1 i
  have hin := hn i hi
  by_cases z : clr p ls i = clr p ls s
  · simp [z, this, hin]
  · simp [z, this, hin]
end
set_option wf.preprocess false in
/-- the first ones of each kind -/
def heads (c : Nat → Int) : List Nat → List Int
  | [] => []
  | i :: L => c i :: heads c (L.filter fun j => decide (c j ≠ c i))
termination_by L => L.length
decreasing_by exact Nat.lt_succ_of_le (List.length_filter_le _ _)
theorem heads_nil (c : Nat → Int) : heads c [] = [] := by rw [heads]
theorem heads_cons (c : Nat → Int) (i : Nat) (L : List Nat) : heads c (i :: L) = c i :: heads c (L.filter fun j => decide (c j ≠ c i)) := by rw [heads]
theorem heads_facts (c : Nat → Int) : ∀ (n : Nat) (L : List Nat), L.length ≤ n → (heads c L).Nodup ∧ ∀ u, u ∈ heads c L ↔ ∃ i ∈ L, c i = u
  | _, [], _ => by rw [heads_nil]; exact ⟨List.nodup_nil, fun u => ⟨(fun z => nomatch z), (fun ⟨i, z, _⟩ => nomatch z)⟩⟩
  | 0, i :: L, h => by simp at h
  | n + 1, i :: L, h => by
    have hl : (L.filter fun j => decide (c j ≠ c i)).length ≤ n := Nat.le_trans (List.length_filter_le _ _) (by simpa using h)
    obtain ⟨h1, h2⟩ := heads_facts c n _ hl
    rw [heads_cons]
    refine ⟨List.nodup_cons.mpr ⟨fun z => ?_, h1⟩, fun u => ?_⟩
    · obtain ⟨j, hj, e⟩ := (h2 _).mp z
      exact of_decide_eq_true (List.mem_filter.mp hj).2 e
    · rw [List.mem_cons, h2]
      constructor
      · rintro (z | ⟨j, hj, e⟩)
        · exact ⟨i, List.mem_cons_self, z.symm⟩
        · exact ⟨j, List.mem_cons_of_mem _ (List.mem_filter.mp hj).1, e⟩
      · rintro ⟨j, hj, e⟩
        by_cases z : c j = c i
        · exact .inl (e.symm.trans z)
        · rcases List.mem_cons.mp hj with y | y
          · exact absurd (y ▸ rfl) z
          · exact .inr ⟨j, List.mem_filter.mpr ⟨y, decide_eq_true z⟩, e⟩
theorem heads_nd (c : Nat → Int) (L : List Nat) : (heads c L).Nodup := (heads_facts c _ L (Nat.le_refl _)).1
theorem mem_heads {c : Nat → Int} {L : List Nat} {u : Int} : u ∈ heads c L ↔ ∃ i ∈ L, c i = u := (heads_facts c _ L (Nat.le_refl _)).2 u
theorem heads_len (c : Nat → Int) : ∀ (n : Nat) (L : List Nat), L.length ≤ n → (heads c L).length ≤ L.length
  | _, [], _ => by rw [heads_nil]; exact Nat.le_refl _
  | 0, i :: L, h => by simp at h
  | n + 1, i :: L, h => by
    have hl : (L.filter fun j => decide (c j ≠ c i)).length ≤ n := Nat.le_trans (List.length_filter_le _ _) (by simpa using h)
    have := heads_len c n _ hl
    have := List.length_filter_le (fun j => decide (c j ≠ c i)) L
    rw [heads_cons, List.length_cons, List.length_cons]
    omega
/-- the lines of a kind -/
def partAt (p : Int) (ls : List Ln) (u : Int) : List Nat := (List.range ls.length).filter fun i => decide (clr p ls i = u)
def uss (p : Int) (ls : List Ln) : List Int := heads (clr p ls) (List.range ls.length)
/-- the parts -/
def partsL (p : Int) (ls : List Ln) : List (List Nat) := (uss p ls).map (partAt p ls)
theorem mem_partAt {p : Int} {ls : List Ln} {u : Int} {i : Nat} : i ∈ partAt p ls u ↔ i < ls.length ∧ clr p ls i = u := by
  unfold partAt
  rw [List.mem_filter, List.mem_range, decide_eq_true_eq]
/-- the outer loop -/
structure Outn (p : Int) (ls : List Ln) (us : List Int) (left : List Nat) : Prop where
  left_eq : left = (List.range ls.length).filter fun i => decide (clr p ls i ∉ us)
  us_eq : us ++ heads (clr p ls) left = uss p ls
theorem Outn.start {p : Int} {ls : List Ln} : Outn p ls [] (List.range ls.length) := ⟨by rw [List.filter_eq_self.mpr (fun a _ => by simp)], rfl⟩
theorem Outn.step {p : Int} {ls : List Ln} {us : List Int} {s : Nat} {L left : List Nat} (O : Outn p ls us (s :: L)) (hl : left = (s :: L).filter fun i => decide (clr p ls i ≠ clr p ls s)) : Outn p ls (us ++ [clr p ls s]) left := by
  refine ⟨?_, ?_⟩
  · rw [hl, O.left_eq, List.filter_filter]
    refine List.filter_congr fun i _ => ?_
    by_cases a : clr p ls i = clr p ls s
    · simp [a]
    · by_cases b : clr p ls i ∈ us <;> simp [a, b]
  · rw [← O.us_eq, heads_cons, List.append_assoc, List.singleton_append, hl, List.filter_cons_of_neg (by simp)]
theorem Outn.facts {p : Int} {ls : List Ln} {us : List Int} {s : Nat} {L : List Nat} (O : Outn p ls us (s :: L)) : (∀ i ∈ s :: L, i < ls.length) ∧ (s :: L).Nodup ∧ ∀ i, i < ls.length → clr p ls i = clr p ls s → i ∈ s :: L := by
  have hm : ∀ i, i ∈ s :: L ↔ i < ls.length ∧ clr p ls i ∉ us := fun i => by rw [O.left_eq, List.mem_filter, List.mem_range, decide_eq_true_eq]
  refine ⟨fun i hi => ((hm i).mp hi).1, ?_, fun i hi e => (hm i).mpr ⟨hi, ?_⟩⟩
  · rw [O.left_eq]; exact List.nodup_range.filter _
  · rw [e]; exact ((hm s).mp List.mem_cons_self).2
theorem Outn.done {p : Int} {ls : List Ln} {us : List Int} (O : Outn p ls us []) : us = uss p ls := by
  have := O.us_eq
  rwa [heads_nil, List.append_nil] at this
/-- the places of a part -/
theorem mem_met_part {p : Int} {ls : List Ln} (h : ∀ l ∈ ls, 0 ≤ l.1 ∧ l.1 < p ∧ 0 ≤ l.2.1 ∧ l.2.1 < p) {u : Int} (hu : u ∈ uss p ls) {q : Int} : q ∈ met ls (partAt p ls u) ↔ (0 ≤ q ∧ q < p) ∧ cm p ls q = u := by
  have key : ∀ i, i < ls.length → ∀ q, (q = (lat ls i).1 ∨ q = (lat ls i).2.1) → (q ∈ met ls (partAt p ls u) ↔ clr p ls i = u) := by
    intro i hi q hq
    constructor
    · intro hm
      obtain ⟨j, hj, hqj⟩ := mem_met.mp hm
      obtain ⟨j1, j2⟩ := mem_partAt.mp hj
      rw [← met_clr h hi hq, met_clr h j1 hqj, j2]
    · intro e
      exact mem_met.mpr ⟨i, mem_partAt.mpr ⟨hi, e⟩, hq⟩
  constructor
  · intro hm
    obtain ⟨j, hj, hqj⟩ := mem_met.mp hm
    obtain ⟨j1, j2⟩ := mem_partAt.mp hj
    obtain ⟨a0, a1, b0, b1⟩ := h _ (lat_mem j1)
    refine ⟨?_, by rw [met_clr h j1 hqj, j2]⟩
    rcases hqj with z | z <;> rw [z]
    · exact ⟨a0, a1⟩
    · exact ⟨b0, b1⟩
  · rintro ⟨_, e⟩
    obtain ⟨i, hi, e2⟩ := mem_heads.mp hu
    have hi := List.mem_range.mp hi
    have cl : Cl ls fun q => q ∈ met ls (partAt p ls u) := by
      intro l hl
      obtain ⟨j, hj, ej⟩ := List.getElem_of_mem hl
      have el : lat ls j = l := lat_of (by rw [List.getElem?_eq_getElem hj, ej])
      exact (key j hj l.1 (.inl (by rw [el]))).trans (key j hj l.2.1 (.inr (by rw [el]))).symm
    refine (cm_sep (p := p) cl (a := q) (b := (lat ls i).1) ?_).mpr ((key i hi _ (.inl rfl)).mpr e2)
    rw [e]; exact e2.symm
end Pt
end Lw

set_option maxHeartbeats 4000000
namespace Lw
open PySem Fu
local macro_rules | `(tactic| walk_at "e1") => `(tactic| first
  | with_reducible refine eo_seq ?_ | (with_reducible refine then_nx' ?_; refine ⟨?_, ?_, ?_⟩; rotate_left; · (try dsimp only [List.set, List.length_cons, List.length_nil, List.cons_append, List.nil_append, Nat.zero_add, Nat.reduceAdd]); exact rfl) | with_reducible refine then_rt ?_ | with_reducible refine eo_if ?_ | with_reducible refine eo_ret ?_ | with_reducible refine eo_set ?_ | with_reducible refine eo_asg ?_ | with_reducible refine eo_drop ?_ | with_reducible refine eo_nx ?_ | with_reducible refine eo_par ?_ | with_reducible refine eo_own ?_ | with_reducible refine eo_retN ?_ | with_reducible refine eo_for ?_ | with_reducible refine eo_retO ?_
  | with_reducible refine ev_c ?_ | (with_reducible refine ev_var ?_; refine ⟨_, rfl, ?_⟩) | with_reducible refine ev_bin ?_ | with_reducible refine ev_un ?_ | with_reducible refine ev_nil ?_ | with_reducible refine ev_cons ?_
  | with_reducible refine ev_tup ?_ | with_reducible refine ev_lst ?_ | with_reducible refine ev_call ?_ | with_reducible refine ev_callF ?_ | with_reducible refine ev_isi ?_ | with_reducible refine ev_isi2 ?_ | with_reducible refine ev_andV ?_ | with_reducible refine ev_orV ?_ | with_reducible refine ev_notV ?_
  | with_reducible refine ev_B ?_ | with_reducible refine ev_and ?_ | with_reducible refine ev_or ?_ | with_reducible refine ev_not ?_ | with_reducible refine ev_yes ?_ | with_reducible refine ev_if ?_ | with_reducible refine ev_no ?_ | with_reducible refine ev_so ?_ | with_reducible refine ev_sl ?_ | with_reducible refine ev_items ?_
  | (with_reducible refine ev_ixO ?_; refine ⟨_, _, rfl, rfl, ?_⟩) | (with_reducible refine ev_varO ?_; refine ⟨_, _, rfl, rfl, ?_⟩) | (with_reducible refine ev_lenO ?_; refine ⟨_, _, rfl, rfl, ?_⟩) | (with_reducible refine ev_scrSl ?_; refine ⟨_, rfl, ?_⟩) | (with_reducible refine ev_scrLen ?_; refine ⟨_, rfl, ?_⟩) | (with_reducible refine ev_callScr ?_; refine ⟨_, rfl, ?_⟩) | (with_reducible refine ev_OL ?_; refine ⟨_, _, rfl, rfl, ?_⟩) | with_reducible refine ev_OR ?_ | with_reducible refine ev_rep ?_ | with_reducible refine ev_listRng1 ?_ | with_reducible refine eo_setO ?_
  | with_reducible refine es_name ?_ | with_reducible refine es_tup2 ?_ | with_reducible refine es_tup3 ?_
  | with_reducible refine ed_addI ?_ | with_reducible refine ed_subI ?_ | with_reducible refine ed_cmp ?_ | with_reducible refine ed_eqI ?_ | with_reducible refine ed_neI ?_ | with_reducible refine ed_slT ?_ | with_reducible refine ed_slL ?_ | with_reducible refine ed_lenT ?_ | with_reducible refine ed_lenL ?_ | with_reducible refine ed_lenS ?_ | with_reducible refine ed_inS ?_ | with_reducible refine ed_itT ?_ | with_reducible refine ed_itL ?_ | with_reducible refine ed_tupL ?_ | with_reducible refine ed_tupT ?_ | with_reducible refine ed_listL ?_ | with_reducible refine ed_listT ?_ | with_reducible refine ed_neg ?_ | with_reducible refine ed_max ?_ | with_reducible refine ed_min ?_ | with_reducible refine ed_intB ?_
  | with_reducible refine ev_rng1 ?_ | with_reducible refine ev_rng2 ?_)
local macro_rules | `(tactic| walk_at "sd") => `(tactic| first | rfl | assumption | (simp only [decide_eq_true_eq, decide_eq_false_iff_not, Bool.not_eq_true', Bool.not_eq_false', Bool.and_eq_true, Bool.or_eq_true, List.length_map, List.length_cons, List.length_nil, List.length_append, List.length_range] at *; omega))
local macro_rules | `(tactic| walk_at "e2") => `(tactic| first
  | walk_at "e1" | with_reducible refine ⟨_, rfl, ?_⟩ | with_reducible refine ⟨_, _, rfl, ?_⟩
  | with_reducible refine And.intro (Eq.refl (List.length _)) ?_ | with_reducible refine And.intro (Nat.le_of_ble_eq_true (n := List.length _) rfl) ?_
  | with_reducible refine And.intro (Eq.refl (_ : Sx)) (?_ : Ed _ _)
  | ((with_reducible refine And.intro ?_ (And.intro ?_ (?_ : Ev _ _))); (· rfl); (· rfl))
  | ((with_reducible refine ed_ixT ?_ ?_ ?_); (· decide); (· rfl)) | ((with_reducible refine ed_ixL ?_ ?_ ?_); (· decide); (· rfl)) | ((with_reducible refine ed_at ?_ ?_ ?_); (· decide); (· rfl))
  | ((with_reducible refine ed_modI ?_ ?_); (· first | decide | omega))
  | with_reducible exact gives_nx | ((with_reducible refine gives_rt ?_); (· rfl)) | ((with_reducible refine And.intro ?_ ?_); (· exact rfl); (· with_reducible exact Eq.refl (_ : Sx))))
local macro_rules | `(tactic| walk_at "e") => `(tactic| repeat walk_at "e2")
/-- begin a def's spec -/
local macro_rules | `(tactic| walk_at "i") => `(tactic| simp only [initS, List.map_cons, List.map_nil, List.length_cons, List.length_nil, Nat.reduceAdd, Nat.reduceSub, List.replicate, List.cons_append, List.nil_append])
/-- a known truth decides -/
local macro_rules | `(tactic| walk_at "t") => `(tactic| first | ((with_reducible refine split_t ?_ ?_); (· walk_at "sd")) | ((with_reducible refine split_t' ?_ ?_); (· walk_at "sd")))
local macro_rules | `(tactic| walk_at "f") => `(tactic| first | ((with_reducible refine split_f ?_ ?_); (· walk_at "sd")) | ((with_reducible refine split_f' ?_ ?_); (· walk_at "sd")))
/-- all that is seen in a look -/
local macro_rules | `(tactic| walk_at "v") => `(tactic| (rw [sealAll_mk (by (simp only [List.set_cons_zero, List.set_cons_succ, List.map_cons, List.map_nil, sealS_none, sealS_dat, sealS_scr, sealS_own, List.getElem?_cons_zero, List.getElem?_cons_succ, sealC_lst]; rfl)) (by (simp only [List.set_cons_zero, List.set_cons_succ, List.map_cons, List.map_nil]; rfl))]))
namespace Pt
open Gr
/-! ### sums by parts -/
/-- the places of a kind -/
def placesAt (p : Int) (ls : List Ln) (u : Int) : List Nat := (List.range p.toNat).filter fun i : Nat => decide (cm p ls i = u)
/-- what a part wants -/
def wantAt (p : Int) (ls : List Ln) (u : Int) : Int := ((placesAt p ls u).map fun i : Nat => wnt ls i).sum
theorem mem_uss {p : Int} {ls : List Ln} {u : Int} : u ∈ uss p ls ↔ ∃ l ∈ ls, cm p ls l.1 = u := by
  unfold uss
  rw [mem_heads]
  constructor
  · rintro ⟨i, hi, e⟩
    exact ⟨_, lat_mem (List.mem_range.mp hi), e⟩
  · rintro ⟨l, hl, e⟩
    obtain ⟨j, hj, ej⟩ := List.getElem_of_mem hl
    have el : lat ls j = l := lat_of (by rw [List.getElem?_eq_getElem hj, ej])
    exact ⟨j, List.mem_range.mpr hj, by unfold clr; rw [el]; exact e⟩
theorem perm_of {l m : List Int} (h1 : l.Nodup) (h2 : m.Nodup) (h : ∀ a, a ∈ l ↔ a ∈ m) : l.Perm m := by
  rw [List.perm_iff_count]
  intro a
  rw [h1.count, h2.count]
  by_cases z : a ∈ l
  · rw [if_pos z, if_pos ((h a).mp z)]
  · rw [if_neg z, if_neg fun y => z ((h a).mpr y)]
/-- the fewest -/
def few (p : Int) (ls : List Ln) : Int := ((uss p ls).map fun u => max 1 ((wantAt p ls u + 1) / 2)).sum
theorem uss_len (p : Int) (ls : List Ln) : (uss p ls).length ≤ ls.length := by
  have := heads_len (clr p ls) _ (List.range ls.length) (Nat.le_refl _)
  rwa [List.length_range] at this
end Pt
end Lw

set_option maxHeartbeats 4000000
namespace Lw
open PySem Fu
local macro_rules | `(tactic| walk_at "e1") => `(tactic| first
  | with_reducible refine eo_seq ?_ | (with_reducible refine then_nx' ?_; refine ⟨?_, ?_, ?_⟩; rotate_left; · (try dsimp only [List.set, List.length_cons, List.length_nil, List.cons_append, List.nil_append, Nat.zero_add, Nat.reduceAdd]); exact rfl) | with_reducible refine then_rt ?_ | with_reducible refine eo_if ?_ | with_reducible refine eo_ret ?_ | with_reducible refine eo_set ?_ | with_reducible refine eo_asg ?_ | with_reducible refine eo_drop ?_ | with_reducible refine eo_nx ?_ | with_reducible refine eo_par ?_ | with_reducible refine eo_own ?_ | with_reducible refine eo_retN ?_ | with_reducible refine eo_for ?_ | with_reducible refine eo_retO ?_
  | with_reducible refine ev_c ?_ | (with_reducible refine ev_var ?_; refine ⟨_, rfl, ?_⟩) | with_reducible refine ev_bin ?_ | with_reducible refine ev_un ?_ | with_reducible refine ev_nil ?_ | with_reducible refine ev_cons ?_
  | with_reducible refine ev_tup ?_ | with_reducible refine ev_lst ?_ | with_reducible refine ev_call ?_ | with_reducible refine ev_callF ?_ | with_reducible refine ev_isi ?_ | with_reducible refine ev_isi2 ?_ | with_reducible refine ev_andV ?_ | with_reducible refine ev_orV ?_ | with_reducible refine ev_notV ?_
  | with_reducible refine ev_B ?_ | with_reducible refine ev_and ?_ | with_reducible refine ev_or ?_ | with_reducible refine ev_not ?_ | with_reducible refine ev_yes ?_ | with_reducible refine ev_if ?_ | with_reducible refine ev_no ?_ | with_reducible refine ev_so ?_ | with_reducible refine ev_sl ?_ | with_reducible refine ev_items ?_
  | (with_reducible refine ev_ixO ?_; refine ⟨_, _, rfl, rfl, ?_⟩) | (with_reducible refine ev_varO ?_; refine ⟨_, _, rfl, rfl, ?_⟩) | (with_reducible refine ev_lenO ?_; refine ⟨_, _, rfl, rfl, ?_⟩) | (with_reducible refine ev_scrSl ?_; refine ⟨_, rfl, ?_⟩) | (with_reducible refine ev_scrLen ?_; refine ⟨_, rfl, ?_⟩) | (with_reducible refine ev_callScr ?_; refine ⟨_, rfl, ?_⟩) | (with_reducible refine ev_OL ?_; refine ⟨_, _, rfl, rfl, ?_⟩) | with_reducible refine ev_OR ?_ | with_reducible refine ev_rep ?_ | with_reducible refine ev_listRng1 ?_ | with_reducible refine eo_setO ?_
  | with_reducible refine es_name ?_ | with_reducible refine es_tup2 ?_ | with_reducible refine es_tup3 ?_
  | with_reducible refine ed_addI ?_ | with_reducible refine ed_subI ?_ | with_reducible refine ed_cmp ?_ | with_reducible refine ed_eqI ?_ | with_reducible refine ed_neI ?_ | with_reducible refine ed_slT ?_ | with_reducible refine ed_slL ?_ | with_reducible refine ed_lenT ?_ | with_reducible refine ed_lenL ?_ | with_reducible refine ed_lenS ?_ | with_reducible refine ed_inS ?_ | with_reducible refine ed_itT ?_ | with_reducible refine ed_itL ?_ | with_reducible refine ed_tupL ?_ | with_reducible refine ed_tupT ?_ | with_reducible refine ed_listL ?_ | with_reducible refine ed_listT ?_ | with_reducible refine ed_neg ?_ | with_reducible refine ed_max ?_ | with_reducible refine ed_min ?_ | with_reducible refine ed_intB ?_
  | with_reducible refine ev_rng1 ?_ | with_reducible refine ev_rng2 ?_)
local macro_rules | `(tactic| walk_at "sd") => `(tactic| first | rfl | assumption | (simp only [decide_eq_true_eq, decide_eq_false_iff_not, Bool.not_eq_true', Bool.not_eq_false', Bool.and_eq_true, Bool.or_eq_true, List.length_map, List.length_cons, List.length_nil, List.length_append, List.length_range] at *; omega))
local macro_rules | `(tactic| walk_at "e2") => `(tactic| first
  | walk_at "e1" | with_reducible refine ⟨_, rfl, ?_⟩ | with_reducible refine ⟨_, _, rfl, ?_⟩
  | with_reducible refine And.intro (Eq.refl (List.length _)) ?_ | with_reducible refine And.intro (Nat.le_of_ble_eq_true (n := List.length _) rfl) ?_
  | with_reducible refine And.intro (Eq.refl (_ : Sx)) (?_ : Ed _ _)
  | ((with_reducible refine And.intro ?_ (And.intro ?_ (?_ : Ev _ _))); (· rfl); (· rfl))
  | ((with_reducible refine ed_ixT ?_ ?_ ?_); (· decide); (· rfl)) | ((with_reducible refine ed_ixL ?_ ?_ ?_); (· decide); (· rfl)) | ((with_reducible refine ed_at ?_ ?_ ?_); (· decide); (· rfl))
  | ((with_reducible refine ed_modI ?_ ?_); (· first | decide | omega))
  | with_reducible exact gives_nx | ((with_reducible refine gives_rt ?_); (· rfl)) | ((with_reducible refine And.intro ?_ ?_); (· exact rfl); (· with_reducible exact Eq.refl (_ : Sx))))
local macro_rules | `(tactic| walk_at "e") => `(tactic| repeat walk_at "e2")
/-- begin a def's spec -/
local macro_rules | `(tactic| walk_at "i") => `(tactic| simp only [initS, List.map_cons, List.map_nil, List.length_cons, List.length_nil, Nat.reduceAdd, Nat.reduceSub, List.replicate, List.cons_append, List.nil_append])
/-- a known truth decides -/
local macro_rules | `(tactic| walk_at "t") => `(tactic| first | ((with_reducible refine split_t ?_ ?_); (· walk_at "sd")) | ((with_reducible refine split_t' ?_ ?_); (· walk_at "sd")))
local macro_rules | `(tactic| walk_at "f") => `(tactic| first | ((with_reducible refine split_f ?_ ?_); (· walk_at "sd")) | ((with_reducible refine split_f' ?_ ?_); (· walk_at "sd")))
/-- all that is seen in a look -/
local macro_rules | `(tactic| walk_at "v") => `(tactic| (rw [sealAll_mk (by (simp only [List.set_cons_zero, List.set_cons_succ, List.map_cons, List.map_nil, sealS_none, sealS_dat, sealS_scr, sealS_own, List.getElem?_cons_zero, List.getElem?_cons_succ, sealC_lst]; rfl)) (by (simp only [List.set_cons_zero, List.set_cons_succ, List.map_cons, List.map_nil]; rfl))]))
namespace Pt
open Gr
/-! ### parts gathered line by line -/
def meets (ls : List Ln) (i j : Nat) : Bool := decide ((lat ls j).1 ∈ [(lat ls i).1, (lat ls i).2.1]) || decide ((lat ls j).2.1 ∈ [(lat ls i).1, (lat ls i).2.1])
def near (ls : List Ln) (found : List (List Nat)) (i : Nat) : List (List Nat) := found.filter fun part => part.any (meets ls i)
def lstep (ls : List Ln) (found : List (List Nat)) (i : Nat) : List (List Nat) := (found.filter fun part => decide (part ∉ near ls found i)) ++ [(near ls found i).flatten ++ [i]]
theorem rest_eq (ls : List Ln) (found : List (List Nat)) (i : Nat) : (found.filter fun part => decide (part ∉ near ls found i)) = found.filter fun part => !part.any (meets ls i) := by
  refine List.filter_congr fun part hp => ?_
  have : part ∈ near ls found i ↔ part.any (meets ls i) = true := by
    unfold near
    rw [List.mem_filter]
    exact ⟨fun h => h.2, fun h => ⟨hp, h⟩⟩
  cases e : part.any (meets ls i)
  · have : part ∉ near ls found i := fun z => by rw [this.mp z] at e; cases e
    simp [this]
  · have := this.mpr e
    simp [this]
theorem flat_split {α : Type} (T : List α → Bool) : ∀ l : List (List α), (l.filter T).flatten.length + (l.filter fun x => !T x).flatten.length = l.flatten.length
  | [] => rfl
  | a :: l => by
    have := flat_split T l
    rw [List.filter_cons, List.filter_cons]
    cases T a <;> simp [List.length_append] at this ⊢ <;> omega
theorem pw_mem {α : Type} {R : α → α → Prop} (sym : ∀ a b, R a b → R b a) : ∀ {l : List α}, l.Pairwise R → ∀ a ∈ l, ∀ b ∈ l, a ≠ b → R a b
  | x :: l, h, a, ha, b, hb, hn => by
    obtain ⟨h1, h2⟩ := List.pairwise_cons.mp h
    rcases List.mem_cons.mp ha with ea | ha2
    · rcases List.mem_cons.mp hb with eb | hb2
      · exact absurd (ea.trans eb.symm) hn
      · rw [ea]; exact h1 b hb2
    · rcases List.mem_cons.mp hb with eb | hb2
      · rw [eb]; exact sym _ _ (h1 a ha2)
      · exact pw_mem sym h2 a ha2 b hb2 hn
def apart (ls : List Ln) (a b : List Nat) : Prop := ∀ q, q ∈ met ls a → q ∉ met ls b
theorem apart_sym {ls : List Ln} (a b : List Nat) (h : apart ls a b) : apart ls b a := fun q hb ha => h q ha hb
theorem meets_iff {ls : List Ln} {i j : Nat} : meets ls i j = true ↔ ∃ q, (q = (lat ls i).1 ∨ q = (lat ls i).2.1) ∧ (q = (lat ls j).1 ∨ q = (lat ls j).2.1) := by
  unfold meets
  rw [Bool.or_eq_true, decide_eq_true_eq, decide_eq_true_eq]
  simp only [List.mem_cons, List.not_mem_nil, or_false]
  constructor
  · rintro (h | h)
    · exact ⟨_, h, .inl rfl⟩
    · exact ⟨_, h, .inr rfl⟩
  · rintro ⟨q, h1, rfl | rfl⟩
    · exact .inl h1
    · exact .inr h1
structure LP (p : Int) (ls : List Ln) (n : Nat) (found : List (List Nat)) : Prop where
  ne : ∀ part ∈ found, part ≠ []
  cov : ∀ i, i < n ↔ ∃ part ∈ found, i ∈ part
  same : ∀ part ∈ found, ∀ i ∈ part, ∀ j ∈ part, clr p ls i = clr p ls j
  sep : found.Pairwise (apart ls)
  len : found.flatten.length = n
theorem LP.step {p : Int} {ls : List Ln} (h : ∀ l ∈ ls, 0 ≤ l.1 ∧ l.1 < p ∧ 0 ≤ l.2.1 ∧ l.2.1 < p) {n : Nat} (hn : n < ls.length) {found : List (List Nat)} (I : LP p ls n found) : LP p ls (n + 1) (lstep ls found n) := by
  have hlt : ∀ part ∈ found, ∀ i ∈ part, i < ls.length := fun part hp i hi => Nat.lt_trans ((I.cov i).mpr ⟨part, hp, hi⟩) hn
  have hmem : ∀ part, part ∈ lstep ls found n ↔ (part ∈ found ∧ part.any (meets ls n) = false) ∨ part = (near ls found n).flatten ++ [n] := fun part => by
    unfold lstep
    rw [rest_eq, List.mem_append, List.mem_filter, List.mem_singleton, Bool.not_eq_true']
  have hnear : ∀ part, part ∈ near ls found n ↔ part ∈ found ∧ part.any (meets ls n) = true := fun part => by unfold near; rw [List.mem_filter]
  have hclr : ∀ i ∈ (near ls found n).flatten ++ [n], clr p ls i = clr p ls n := by
    intro i hi
    rcases List.mem_append.mp hi with hi | hi
    · obtain ⟨part, hp, hi⟩ := List.mem_flatten.mp hi
      obtain ⟨hp, ht⟩ := (hnear part).mp hp
      obtain ⟨j, hj, hm⟩ := List.any_eq_true.mp ht
      obtain ⟨q, q1, q2⟩ := meets_iff.mp hm
      rw [I.same part hp i hi j hj, ← met_clr h (hlt part hp j hj) q2, met_clr h hn q1]
    · rw [List.mem_singleton.mp hi]
  refine ⟨fun part hp => ?_, fun i => ?_, fun part hp i hi j hj => ?_, ?_, ?_⟩
  · rcases (hmem part).mp hp with ⟨hp, _⟩ | rfl
    · exact I.ne part hp
    · simp
  · constructor
    · intro hi
      rcases Nat.lt_or_ge i n with z | z
      · obtain ⟨part, hp, hip⟩ := (I.cov i).mp z
        by_cases ht : part.any (meets ls n) = true
        · exact ⟨_, (hmem _).mpr (.inr rfl), List.mem_append.mpr (.inl (List.mem_flatten.mpr ⟨part, (hnear part).mpr ⟨hp, ht⟩, hip⟩))⟩
        · exact ⟨part, (hmem _).mpr (.inl ⟨hp, by simpa using ht⟩), hip⟩
      · have : i = n := by omega
        subst this
        exact ⟨_, (hmem _).mpr (.inr rfl), List.mem_append.mpr (.inr (List.mem_singleton.mpr rfl))⟩
    · rintro ⟨part, hp, hi⟩
      rcases (hmem part).mp hp with ⟨hp, _⟩ | rfl
      · have := (I.cov i).mpr ⟨part, hp, hi⟩; omega
      · rcases List.mem_append.mp hi with hi | hi
        · obtain ⟨part, hp, hi⟩ := List.mem_flatten.mp hi
          have := (I.cov i).mpr ⟨part, ((hnear part).mp hp).1, hi⟩; omega
        · rw [List.mem_singleton.mp hi]; omega
  · rcases (hmem part).mp hp with ⟨hp, _⟩ | rfl
    · exact I.same part hp i hi j hj
    · rw [hclr i hi, hclr j hj]
  · unfold lstep
    rw [rest_eq, List.pairwise_append]
    refine ⟨I.sep.filter _, List.pairwise_singleton _ _, fun a ha b hb => ?_⟩
    rw [List.mem_singleton.mp hb]
    obtain ⟨ha, hna⟩ := List.mem_filter.mp ha
    have hna : a.any (meets ls n) = false := by simpa using hna
    intro q qa qb
    obtain ⟨j, hj, hqj⟩ := mem_met.mp qb
    rcases List.mem_append.mp hj with hj | hj
    · obtain ⟨part, hp, hj⟩ := List.mem_flatten.mp hj
      obtain ⟨hp, ht⟩ := (hnear part).mp hp
      have hne : a ≠ part := fun z => by rw [z, ht] at hna; cases hna
      exact pw_mem apart_sym I.sep a ha part hp hne q qa (mem_met.mpr ⟨j, hj, hqj⟩)
    · rw [List.mem_singleton.mp hj] at hqj
      obtain ⟨i, hi, hqi⟩ := mem_met.mp qa
      have := List.any_eq_true.mpr ⟨i, hi, meets_iff.mpr ⟨q, hqj, hqi⟩⟩
      rw [hna] at this
      cases this
  · unfold lstep
    rw [rest_eq, List.flatten_append, List.length_append]
    have := flat_split (fun part : List Nat => part.any (meets ls n)) found
    have hl := I.len
    simp only [List.flatten_cons, List.flatten_nil, List.append_nil, List.length_append, List.length_cons, List.length_nil]
    unfold near
    omega
/-- the kind of a part -/
def key (p : Int) (ls : List Ln) (part : List Nat) : Int := clr p ls (part.headD 0)
end Pt
end Lw

set_option maxHeartbeats 4000000
namespace Lw
open PySem Fu
local macro_rules | `(tactic| walk_at "e1") => `(tactic| first
  | with_reducible refine eo_seq ?_ | (with_reducible refine then_nx' ?_; refine ⟨?_, ?_, ?_⟩; rotate_left; · (try dsimp only [List.set, List.length_cons, List.length_nil, List.cons_append, List.nil_append, Nat.zero_add, Nat.reduceAdd]); exact rfl) | with_reducible refine then_rt ?_ | with_reducible refine eo_if ?_ | with_reducible refine eo_ret ?_ | with_reducible refine eo_set ?_ | with_reducible refine eo_asg ?_ | with_reducible refine eo_drop ?_ | with_reducible refine eo_nx ?_ | with_reducible refine eo_par ?_ | with_reducible refine eo_own ?_ | with_reducible refine eo_retN ?_ | with_reducible refine eo_for ?_ | with_reducible refine eo_retO ?_
  | with_reducible refine ev_c ?_ | (with_reducible refine ev_var ?_; refine ⟨_, rfl, ?_⟩) | with_reducible refine ev_bin ?_ | with_reducible refine ev_un ?_ | with_reducible refine ev_nil ?_ | with_reducible refine ev_cons ?_
  | with_reducible refine ev_tup ?_ | with_reducible refine ev_lst ?_ | with_reducible refine ev_call ?_ | with_reducible refine ev_callF ?_ | with_reducible refine ev_isi ?_ | with_reducible refine ev_isi2 ?_ | with_reducible refine ev_andV ?_ | with_reducible refine ev_orV ?_ | with_reducible refine ev_notV ?_
  | with_reducible refine ev_B ?_ | with_reducible refine ev_and ?_ | with_reducible refine ev_or ?_ | with_reducible refine ev_not ?_ | with_reducible refine ev_yes ?_ | with_reducible refine ev_if ?_ | with_reducible refine ev_no ?_ | with_reducible refine ev_so ?_ | with_reducible refine ev_sl ?_ | with_reducible refine ev_items ?_
  | (with_reducible refine ev_ixO ?_; refine ⟨_, _, rfl, rfl, ?_⟩) | (with_reducible refine ev_varO ?_; refine ⟨_, _, rfl, rfl, ?_⟩) | (with_reducible refine ev_lenO ?_; refine ⟨_, _, rfl, rfl, ?_⟩) | (with_reducible refine ev_scrSl ?_; refine ⟨_, rfl, ?_⟩) | (with_reducible refine ev_scrLen ?_; refine ⟨_, rfl, ?_⟩) | (with_reducible refine ev_callScr ?_; refine ⟨_, rfl, ?_⟩) | (with_reducible refine ev_OL ?_; refine ⟨_, _, rfl, rfl, ?_⟩) | with_reducible refine ev_OR ?_ | with_reducible refine ev_rep ?_ | with_reducible refine ev_listRng1 ?_ | with_reducible refine eo_setO ?_
  | with_reducible refine es_name ?_ | with_reducible refine es_tup2 ?_ | with_reducible refine es_tup3 ?_
  | with_reducible refine ed_addI ?_ | with_reducible refine ed_subI ?_ | with_reducible refine ed_cmp ?_ | with_reducible refine ed_eqI ?_ | with_reducible refine ed_neI ?_ | with_reducible refine ed_slT ?_ | with_reducible refine ed_slL ?_ | with_reducible refine ed_lenT ?_ | with_reducible refine ed_lenL ?_ | with_reducible refine ed_lenS ?_ | with_reducible refine ed_inS ?_ | with_reducible refine ed_itT ?_ | with_reducible refine ed_itL ?_ | with_reducible refine ed_tupL ?_ | with_reducible refine ed_tupT ?_ | with_reducible refine ed_listL ?_ | with_reducible refine ed_listT ?_ | with_reducible refine ed_neg ?_ | with_reducible refine ed_max ?_ | with_reducible refine ed_min ?_ | with_reducible refine ed_intB ?_
  | with_reducible refine ev_rng1 ?_ | with_reducible refine ev_rng2 ?_)
local macro_rules | `(tactic| walk_at "sd") => `(tactic| first | rfl | assumption | (simp only [decide_eq_true_eq, decide_eq_false_iff_not, Bool.not_eq_true', Bool.not_eq_false', Bool.and_eq_true, Bool.or_eq_true, List.length_map, List.length_cons, List.length_nil, List.length_append, List.length_range] at *; omega))
local macro_rules | `(tactic| walk_at "e2") => `(tactic| first
  | walk_at "e1" | with_reducible refine ⟨_, rfl, ?_⟩ | with_reducible refine ⟨_, _, rfl, ?_⟩
  | with_reducible refine And.intro (Eq.refl (List.length _)) ?_ | with_reducible refine And.intro (Nat.le_of_ble_eq_true (n := List.length _) rfl) ?_
  | with_reducible refine And.intro (Eq.refl (_ : Sx)) (?_ : Ed _ _)
  | ((with_reducible refine And.intro ?_ (And.intro ?_ (?_ : Ev _ _))); (· rfl); (· rfl))
  | ((with_reducible refine ed_ixT ?_ ?_ ?_); (· decide); (· rfl)) | ((with_reducible refine ed_ixL ?_ ?_ ?_); (· decide); (· rfl)) | ((with_reducible refine ed_at ?_ ?_ ?_); (· decide); (· rfl))
  | ((with_reducible refine ed_modI ?_ ?_); (· first | decide | omega))
  | with_reducible exact gives_nx | ((with_reducible refine gives_rt ?_); (· rfl)) | ((with_reducible refine And.intro ?_ ?_); (· exact rfl); (· with_reducible exact Eq.refl (_ : Sx))))
local macro_rules | `(tactic| walk_at "e") => `(tactic| repeat walk_at "e2")
/-- begin a def's spec -/
local macro_rules | `(tactic| walk_at "i") => `(tactic| simp only [initS, List.map_cons, List.map_nil, List.length_cons, List.length_nil, Nat.reduceAdd, Nat.reduceSub, List.replicate, List.cons_append, List.nil_append])
/-- a known truth decides -/
local macro_rules | `(tactic| walk_at "t") => `(tactic| first | ((with_reducible refine split_t ?_ ?_); (· walk_at "sd")) | ((with_reducible refine split_t' ?_ ?_); (· walk_at "sd")))
local macro_rules | `(tactic| walk_at "f") => `(tactic| first | ((with_reducible refine split_f ?_ ?_); (· walk_at "sd")) | ((with_reducible refine split_f' ?_ ?_); (· walk_at "sd")))
/-- all that is seen in a look -/
local macro_rules | `(tactic| walk_at "v") => `(tactic| (rw [sealAll_mk (by (simp only [List.set_cons_zero, List.set_cons_succ, List.map_cons, List.map_nil, sealS_none, sealS_dat, sealS_scr, sealS_own, List.getElem?_cons_zero, List.getElem?_cons_succ, sealC_lst]; rfl)) (by (simp only [List.set_cons_zero, List.set_cons_succ, List.map_cons, List.map_nil]; rfl))]))
namespace Pt
open Gr
/-! ### what changes the parts -/
abbrev Bd (p : Int) (ls : List Ln) : Prop := ∀ l ∈ ls, 0 ≤ l.1 ∧ l.1 < p ∧ 0 ≤ l.2.1 ∧ l.2.1 < p
theorem cm_le (p : Int) (ls : List Ln) (q : Int) : cm p ls q ≤ q := mrounds_le ls _ q
theorem cl_const {p : Int} {ls : List Ln} (h : Bd p ls) (u : Int) : Cl ls fun q => cm p ls q = u := fun l hl => by
  show cm p ls l.1 = u ↔ cm p ls l.2.1 = u
  rw [cm_line h hl]
theorem cm_le_of {p p' : Int} {ls ls' : List Ln} (h : Bd p ls) {q : Int} (c : Cl ls' fun r => cm p ls r = cm p ls q) : cm p ls q ≤ cm p' ls' q := by
  have := (cm_in (p := p') c q).mpr rfl
  rw [← this]
  exact cm_le p ls _
theorem cm_same {p p' : Int} {ls ls' : List Ln} (h : Bd p ls) (h' : Bd p' ls') (e : ∀ Q, Cl ls Q ↔ Cl ls' Q) (q : Int) : cm p ls q = cm p' ls' q :=
  Int.le_antisymm (cm_le_of h ((e _).mp (cl_const h _))) (cm_le_of h' ((e _).mpr (cl_const h' _)))
def pr (l : Ln) : Int × Int := (l.1, l.2.1)
theorem cl_pr {ls : List Ln} {Q : Int → Prop} : Cl ls Q ↔ ∀ x ∈ ls.map pr, Q x.1 ↔ Q x.2 := by
  unfold Cl
  constructor
  · rintro h x hx
    obtain ⟨l, hl, rfl⟩ := List.mem_map.mp hx
    exact h l hl
  · intro h l hl
    exact h _ (List.mem_map.mpr ⟨l, hl, rfl⟩)
theorem lat_pr {ls ls' : List Ln} (e : ls.map pr = ls'.map pr) (i : Nat) : pr (lat ls i) = pr (lat ls' i) := by
  have h1 : ∀ ls : List Ln, pr (lat ls i) = (ls.map pr).getD i (0, 0) := fun ls => by
    unfold lat
    rw [List.getD_eq_getElem?_getD, List.getD_eq_getElem?_getD, List.getElem?_map]
    cases ls[i]? <;> rfl
  rw [h1, h1, e]
/-- companies matter nothing -/
theorem partsL_pr {p : Int} {ls ls' : List Ln} (h : Bd p ls) (h' : Bd p ls') (e : ls.map pr = ls'.map pr) : partsL p ls = partsL p ls' := by
  have hc : clr p ls = clr p ls' := by
    funext i
    unfold clr
    rw [cm_same h h' (fun Q => by rw [cl_pr, cl_pr, e])]
    have := congrArg Prod.fst (lat_pr e i)
    exact congrArg _ this
  have hl : ls.length = ls'.length := by have := congrArg List.length e; simpa using this
  unfold partsL uss
  rw [hc, hl]
  refine List.map_congr_left fun u _ => ?_
  unfold partAt
  rw [hc, hl]
/-! #### a line more -/
def Tch (p : Int) (ls : List Ln) (l : Ln) (q : Int) : Prop := cm p ls q = cm p ls l.1 ∨ cm p ls q = cm p ls l.2.1
section
variable {p : Int} {ls ls' : List Ln} {l : Ln}
theorem add_same (h : Bd p ls) (h' : Bd p ls') (hc : ∀ Q, Cl ls' Q ↔ Cl ls Q ∧ (Q l.1 ↔ Q l.2.1)) {q : Int} (hq : ¬ Tch p ls l q) : cm p ls' q = cm p ls q := by
  refine Int.le_antisymm (cm_le_of h' ((hc _).mp (cl_const h' _)).1) (cm_le_of h ((hc _).mpr ⟨cl_const h _, ?_⟩))
  constructor
  · intro z; exact absurd (.inl z.symm) hq
  · intro z; exact absurd (.inr z.symm) hq
theorem add_touch (h : Bd p ls) (h' : Bd p ls') (hc : ∀ Q, Cl ls' Q ↔ Cl ls Q ∧ (Q l.1 ↔ Q l.2.1)) {q : Int} (hq : Tch p ls l q) : cm p ls' q = cm p ls' l.1 := by
  obtain ⟨c1, c2⟩ := (hc _).mp (cl_const h' (cm p ls' l.1))
  rcases hq with hq | hq
  · exact (cm_sep c1 hq).mpr rfl
  · exact (cm_sep c1 hq).mpr (c2.mp rfl)
theorem tch_cl (h : Bd p ls) (hc : ∀ Q, Cl ls' Q ↔ Cl ls Q ∧ (Q l.1 ↔ Q l.2.1)) : Cl ls' (Tch p ls l) := by
  refine (hc _).mpr ⟨fun k hk => ?_, ⟨fun _ => .inr rfl, fun _ => .inl rfl⟩⟩
  unfold Tch
  rw [cm_line h hk]
theorem add_sep (h : Bd p ls) (hc : ∀ Q, Cl ls' Q ↔ Cl ls Q ∧ (Q l.1 ↔ Q l.2.1)) {q r : Int} (hq : Tch p ls l q) (hr : ¬ Tch p ls l r) : cm p ls' q ≠ cm p ls' r :=
  fun e => hr ((cm_sep (p := p) (tch_cl h hc) e).mp hq)
theorem cl_mem (hm : ∀ x, x ∈ ls' ↔ x = l ∨ x ∈ ls) (Q : Int → Prop) : Cl ls' Q ↔ Cl ls Q ∧ (Q l.1 ↔ Q l.2.1) := by
  constructor
  · intro c
    exact ⟨fun k hk => c k ((hm k).mpr (.inr hk)), c l ((hm l).mpr (.inl rfl))⟩
  · rintro ⟨c1, c2⟩ k hk
    rcases (hm k).mp hk with rfl | hk
    · exact c2
    · exact c1 k hk
/-- how many parts there are with a line more -/
theorem count_add (h' : Bd p ls') (hm : ∀ x, x ∈ ls' ↔ x = l ∨ x ∈ ls) : (uss p ls').length = ((uss p ls).filter fun u => decide (u ≠ cm p ls l.1) && decide (u ≠ cm p ls l.2.1)).length + 1 := by
  have h : Bd p ls := fun k hk => h' k ((hm k).mpr (.inr hk))
  have hc := cl_mem hm
  have hp : (uss p ls').Perm (((uss p ls).filter fun u => decide (u ≠ cm p ls l.1) && decide (u ≠ cm p ls l.2.1)) ++ [cm p ls' l.1]) := by
    refine perm_of (heads_nd _ _) ?_ fun u => ?_
    · refine List.nodup_append.mpr ⟨(heads_nd _ _).filter _, List.nodup_cons.mpr ⟨List.not_mem_nil, List.nodup_nil⟩, fun a ha b hb e => ?_⟩
      rw [List.mem_singleton.mp hb] at e
      obtain ⟨ha, hn⟩ := List.mem_filter.mp ha
      obtain ⟨x, hx, rfl⟩ := mem_uss.mp ha
      have hn : ¬ Tch p ls l x.1 := by
        simp only [Bool.and_eq_true, decide_eq_true_eq] at hn
        rintro (z | z)
        · exact hn.1 z
        · exact hn.2 z
      exact add_sep h hc (.inl rfl) hn (e.symm.trans (add_same h h' hc hn).symm)
    · rw [mem_uss, List.mem_append, List.mem_singleton, List.mem_filter, mem_uss]
      constructor
      · rintro ⟨x, hx, rfl⟩
        by_cases ht : Tch p ls l x.1
        · exact .inr (add_touch h h' hc ht)
        · rcases (hm x).mp hx with rfl | hx
          · exact absurd (.inl rfl) ht
          · rw [add_same h h' hc ht]
            refine .inl ⟨⟨x, hx, rfl⟩, ?_⟩
            simp only [Bool.and_eq_true, decide_eq_true_eq]
            exact ⟨fun z => ht (.inl z), fun z => ht (.inr z)⟩
      · rintro (⟨⟨x, hx, rfl⟩, hn⟩ | rfl)
        · have hn : ¬ Tch p ls l x.1 := by
            simp only [Bool.and_eq_true, decide_eq_true_eq] at hn
            rintro (z | z)
            · exact hn.1 z
            · exact hn.2 z
          exact ⟨x, (hm x).mpr (.inr hx), add_same h h' hc hn⟩
        · exact ⟨l, (hm l).mpr (.inl rfl), rfl⟩
  rw [hp.length_eq, List.length_append]
  rfl
end
theorem filter_ne1 {a : Int} : ∀ {l : List Int}, l.Nodup → l.length ≤ (l.filter fun u => decide (u ≠ a)).length + 1
  | [], _ => Nat.zero_le _
  | x :: l, h => by
    obtain ⟨h1, h2⟩ := List.nodup_cons.mp h
    by_cases e : x = a
    · subst e
      have : (l.filter fun u => decide (u ≠ x)) = l := List.filter_eq_self.mpr fun y hy => decide_eq_true fun z => h1 (z ▸ hy)
      rw [List.filter_cons_of_neg (by simp), this, List.length_cons]
      exact Nat.le_refl _
    · have := filter_ne1 (a := a) h2
      rw [List.filter_cons_of_pos (by simpa using e), List.length_cons, List.length_cons]
      omega
theorem filter_two {a b : Int} (l : List Int) : (l.filter fun u => decide (u ≠ a) && decide (u ≠ b)) = (l.filter fun u => decide (u ≠ a)).filter fun u => decide (u ≠ b) := by
  rw [List.filter_filter]
  exact List.filter_congr fun u _ => Bool.and_comm _ _
/-- a line less -/
theorem count_less {p : Int} {A B : List Ln} {l : Ln} (h : Bd p (A ++ l :: B)) : (uss p (A ++ l :: B)).length ≤ (uss p (A ++ B)).length + 1 ∧ (uss p (A ++ B)).length ≤ (uss p (A ++ l :: B)).length + 1 := by
  have hm : ∀ x, x ∈ A ++ l :: B ↔ x = l ∨ x ∈ A ++ B := fun x => by
    simp only [List.mem_append, List.mem_cons]
    constructor
    · rintro (z | z | z)
      · exact .inr (.inl z)
      · exact .inl z
      · exact .inr (.inr z)
    · rintro (z | z | z)
      · exact .inr (.inl z)
      · exact .inl z
      · exact .inr (.inr z)
  have hc := count_add h hm
  have nd : (uss p (A ++ B)).Nodup := heads_nd _ _
  rw [filter_two] at hc
  have h1 := filter_ne1 (a := cm p (A ++ B) l.1) nd
  have h2 := filter_ne1 (a := cm p (A ++ B) l.2.1) (nd.filter fun u => decide (u ≠ cm p (A ++ B) l.1))
  have h3 := List.length_filter_le (fun u => decide (u ≠ cm p (A ++ B) l.1)) (uss p (A ++ B))
  have h4 := List.length_filter_le (fun u => decide (u ≠ cm p (A ++ B) l.2.1)) ((uss p (A ++ B)).filter fun u => decide (u ≠ cm p (A ++ B) l.1))
  omega
theorem bd_more {p : Int} {ls : List Ln} (h : Bd p ls) : Bd (p + 1) ls := fun l hl => by
  obtain ⟨a, b, c, d⟩ := h l hl
  exact ⟨a, by omega, c, by omega⟩
theorem cm_out {p : Int} {ls : List Ln} (h : Bd p ls) : cm (p + 1) ls p = p := by
  have c : Cl ls fun q => q = p := fun l hl => by
    obtain ⟨a, b, c, d⟩ := h l hl
    constructor <;> (intro z; omega)
  exact (cm_in (p := p + 1) c p).mpr rfl
theorem uss_more {p : Int} {ls : List Ln} (h : Bd p ls) : uss (p + 1) ls = uss p ls := by
  unfold uss
  congr 1
  funext i
  unfold clr
  exact cm_same (bd_more h) h (fun _ => Iff.rfl) _
theorem uss_lt {p : Int} {ls : List Ln} (h : Bd p ls) {u : Int} (hu : u ∈ uss p ls) : u < p := by
  obtain ⟨l, hl, rfl⟩ := mem_uss.mp hu
  obtain ⟨a, b, c, d⟩ := h l hl
  exact Int.lt_of_le_of_lt (cm_le p ls _) b
/-- an end taken to a new place -/
theorem count_loose {p : Int} {A B : List Ln} {l k : Ln} (h : Bd p (A ++ l :: B)) (hk : (k.1 = l.1 ∧ k.2.1 = p) ∨ (k.1 = p ∧ k.2.1 = l.2.1)) : (uss p (A ++ l :: B)).length ≤ (uss (p + 1) (A ++ k :: B)).length ∧ (uss (p + 1) (A ++ k :: B)).length ≤ (uss p (A ++ l :: B)).length + 1 := by
  have hm : ∀ (l x : Ln), x ∈ A ++ l :: B ↔ x = l ∨ x ∈ A ++ B := fun l x => by
    simp only [List.mem_append, List.mem_cons]
    constructor
    · rintro (z | z | z)
      · exact .inr (.inl z)
      · exact .inl z
      · exact .inr (.inr z)
    · rintro (z | z | z)
      · exact .inr (.inl z)
      · exact .inl z
      · exact .inr (.inr z)
  have h0 : Bd p (A ++ B) := fun x hx => h x ((hm l x).mpr (.inr hx))
  obtain ⟨a0, a1, b0, b1⟩ := h l ((hm l l).mpr (.inl rfl))
  have h2 : Bd (p + 1) (A ++ k :: B) := fun x hx => by
    rcases (hm k x).mp hx with rfl | hx
    · rcases hk with ⟨e1, e2⟩ | ⟨e1, e2⟩ <;> rw [e1, e2]
      · exact ⟨a0, by omega, by omega, by omega⟩
      · exact ⟨by omega, by omega, b0, by omega⟩
    · exact bd_more h0 x hx
  have hc := count_add h (hm l)
  have hc2 := count_add h2 (hm k)
  have hcm : ∀ q, cm (p + 1) (A ++ B) q = cm p (A ++ B) q := cm_same (bd_more h0) h0 fun _ => Iff.rfl
  rw [uss_more h0] at hc2
  have nd : (uss p (A ++ B)).Nodup := heads_nd _ _
  have hp : ∀ u ∈ uss p (A ++ B), decide (u ≠ cm (p + 1) (A ++ B) p) = true := fun u hu => by
    rw [cm_out h0]
    have := uss_lt h0 hu
    exact decide_eq_true (by omega)
  rw [filter_two] at hc hc2
  rcases hk with ⟨e1, e2⟩ | ⟨e1, e2⟩
  · rw [e1, e2] at hc2
    rw [List.filter_eq_self.mpr fun u hu => hp u (List.mem_filter.mp hu).1, hcm] at hc2
    have h3 := filter_ne1 (a := cm p (A ++ B) l.2.1) (nd.filter fun u => decide (u ≠ cm p (A ++ B) l.1))
    have h4 := List.length_filter_le (fun u => decide (u ≠ cm p (A ++ B) l.2.1)) ((uss p (A ++ B)).filter fun u => decide (u ≠ cm p (A ++ B) l.1))
    omega
  · rw [e1, e2] at hc2
    rw [List.filter_eq_self.mpr hp, hcm] at hc2
    rw [← filter_two, show ((uss p (A ++ B)).filter fun u => decide (u ≠ cm p (A ++ B) l.1) && decide (u ≠ cm p (A ++ B) l.2.1)) = ((uss p (A ++ B)).filter fun u => decide (u ≠ cm p (A ++ B) l.2.1)).filter (fun u => decide (u ≠ cm p (A ++ B) l.1)) from by rw [List.filter_filter]] at hc
    have h3 := filter_ne1 (a := cm p (A ++ B) l.1) (nd.filter fun u => decide (u ≠ cm p (A ++ B) l.2.1))
    have h4 := List.length_filter_le (fun u => decide (u ≠ cm p (A ++ B) l.1)) ((uss p (A ++ B)).filter fun u => decide (u ≠ cm p (A ++ B) l.2.1))
    omega
end Pt
end Lw

set_option maxHeartbeats 4000000
namespace Lw
open PySem Fu
local macro_rules | `(tactic| walk_at "e1") => `(tactic| first
  | with_reducible refine eo_seq ?_ | (with_reducible refine then_nx' ?_; refine ⟨?_, ?_, ?_⟩; rotate_left; · (try dsimp only [List.set, List.length_cons, List.length_nil, List.cons_append, List.nil_append, Nat.zero_add, Nat.reduceAdd]); exact rfl) | with_reducible refine then_rt ?_ | with_reducible refine eo_if ?_ | with_reducible refine eo_ret ?_ | with_reducible refine eo_set ?_ | with_reducible refine eo_asg ?_ | with_reducible refine eo_drop ?_ | with_reducible refine eo_nx ?_ | with_reducible refine eo_par ?_ | with_reducible refine eo_own ?_ | with_reducible refine eo_retN ?_ | with_reducible refine eo_for ?_ | with_reducible refine eo_retO ?_
  | with_reducible refine ev_c ?_ | (with_reducible refine ev_var ?_; refine ⟨_, rfl, ?_⟩) | with_reducible refine ev_bin ?_ | with_reducible refine ev_un ?_ | with_reducible refine ev_nil ?_ | with_reducible refine ev_cons ?_
  | with_reducible refine ev_tup ?_ | with_reducible refine ev_lst ?_ | with_reducible refine ev_call ?_ | with_reducible refine ev_callF ?_ | with_reducible refine ev_isi ?_ | with_reducible refine ev_isi2 ?_ | with_reducible refine ev_andV ?_ | with_reducible refine ev_orV ?_ | with_reducible refine ev_notV ?_
  | with_reducible refine ev_B ?_ | with_reducible refine ev_and ?_ | with_reducible refine ev_or ?_ | with_reducible refine ev_not ?_ | with_reducible refine ev_yes ?_ | with_reducible refine ev_if ?_ | with_reducible refine ev_no ?_ | with_reducible refine ev_so ?_ | with_reducible refine ev_sl ?_ | with_reducible refine ev_items ?_
  | (with_reducible refine ev_ixO ?_; refine ⟨_, _, rfl, rfl, ?_⟩) | (with_reducible refine ev_varO ?_; refine ⟨_, _, rfl, rfl, ?_⟩) | (with_reducible refine ev_lenO ?_; refine ⟨_, _, rfl, rfl, ?_⟩) | (with_reducible refine ev_scrSl ?_; refine ⟨_, rfl, ?_⟩) | (with_reducible refine ev_scrLen ?_; refine ⟨_, rfl, ?_⟩) | (with_reducible refine ev_callScr ?_; refine ⟨_, rfl, ?_⟩) | (with_reducible refine ev_OL ?_; refine ⟨_, _, rfl, rfl, ?_⟩) | with_reducible refine ev_OR ?_ | with_reducible refine ev_rep ?_ | with_reducible refine ev_listRng1 ?_ | with_reducible refine eo_setO ?_
  | with_reducible refine es_name ?_ | with_reducible refine es_tup2 ?_ | with_reducible refine es_tup3 ?_
  | with_reducible refine ed_addI ?_ | with_reducible refine ed_subI ?_ | with_reducible refine ed_cmp ?_ | with_reducible refine ed_eqI ?_ | with_reducible refine ed_neI ?_ | with_reducible refine ed_slT ?_ | with_reducible refine ed_slL ?_ | with_reducible refine ed_lenT ?_ | with_reducible refine ed_lenL ?_ | with_reducible refine ed_lenS ?_ | with_reducible refine ed_inS ?_ | with_reducible refine ed_itT ?_ | with_reducible refine ed_itL ?_ | with_reducible refine ed_tupL ?_ | with_reducible refine ed_tupT ?_ | with_reducible refine ed_listL ?_ | with_reducible refine ed_listT ?_ | with_reducible refine ed_neg ?_ | with_reducible refine ed_max ?_ | with_reducible refine ed_min ?_ | with_reducible refine ed_intB ?_
  | with_reducible refine ev_rng1 ?_ | with_reducible refine ev_rng2 ?_)
local macro_rules | `(tactic| walk_at "sd") => `(tactic| first | rfl | assumption | (simp only [decide_eq_true_eq, decide_eq_false_iff_not, Bool.not_eq_true', Bool.not_eq_false', Bool.and_eq_true, Bool.or_eq_true, List.length_map, List.length_cons, List.length_nil, List.length_append, List.length_range] at *; omega))
local macro_rules | `(tactic| walk_at "e2") => `(tactic| first
  | walk_at "e1" | with_reducible refine ⟨_, rfl, ?_⟩ | with_reducible refine ⟨_, _, rfl, ?_⟩
  | with_reducible refine And.intro (Eq.refl (List.length _)) ?_ | with_reducible refine And.intro (Nat.le_of_ble_eq_true (n := List.length _) rfl) ?_
  | with_reducible refine And.intro (Eq.refl (_ : Sx)) (?_ : Ed _ _)
  | ((with_reducible refine And.intro ?_ (And.intro ?_ (?_ : Ev _ _))); (· rfl); (· rfl))
  | ((with_reducible refine ed_ixT ?_ ?_ ?_); (· decide); (· rfl)) | ((with_reducible refine ed_ixL ?_ ?_ ?_); (· decide); (· rfl)) | ((with_reducible refine ed_at ?_ ?_ ?_); (· decide); (· rfl))
  | ((with_reducible refine ed_modI ?_ ?_); (· first | decide | omega))
  | with_reducible exact gives_nx | ((with_reducible refine gives_rt ?_); (· rfl)) | ((with_reducible refine And.intro ?_ ?_); (· exact rfl); (· with_reducible exact Eq.refl (_ : Sx))))
local macro_rules | `(tactic| walk_at "e") => `(tactic| repeat walk_at "e2")
/-- begin a def's spec -/
local macro_rules | `(tactic| walk_at "i") => `(tactic| simp only [initS, List.map_cons, List.map_nil, List.length_cons, List.length_nil, Nat.reduceAdd, Nat.reduceSub, List.replicate, List.cons_append, List.nil_append])
/-- a known truth decides -/
local macro_rules | `(tactic| walk_at "t") => `(tactic| first | ((with_reducible refine split_t ?_ ?_); (· walk_at "sd")) | ((with_reducible refine split_t' ?_ ?_); (· walk_at "sd")))
local macro_rules | `(tactic| walk_at "f") => `(tactic| first | ((with_reducible refine split_f ?_ ?_); (· walk_at "sd")) | ((with_reducible refine split_f' ?_ ?_); (· walk_at "sd")))
/-- all that is seen in a look -/
local macro_rules | `(tactic| walk_at "v") => `(tactic| (rw [sealAll_mk (by (simp only [List.set_cons_zero, List.set_cons_succ, List.map_cons, List.map_nil, sealS_none, sealS_dat, sealS_scr, sealS_own, List.getElem?_cons_zero, List.getElem?_cons_succ, sealC_lst]; rfl)) (by (simp only [List.set_cons_zero, List.set_cons_succ, List.map_cons, List.map_nil]; rfl))]))
namespace Pt
open Gr
/-! ### parts in their order -/
def HL (a b : List Nat) : Prop := ∃ x a' y b', a = x :: a' ∧ b = y :: b' ∧ x < y
theorem heads_sorted (c : Nat → Int) : ∀ (n : Nat) (L : List Nat), L.length ≤ n → L.Pairwise (· < ·) → ((heads c L).map fun u => L.filter fun i => decide (c i = u)).Pairwise HL
  | _, [], _, _ => by rw [heads_nil]; exact .nil
  | 0, i :: L, h, _ => by simp at h
  | n + 1, i :: L, h, hp => by
    obtain ⟨p1, p2⟩ := List.pairwise_cons.mp hp
    have hl : (L.filter fun j => decide (c j ≠ c i)).length ≤ n := Nat.le_trans (List.length_filter_le _ _) (by simpa using h)
    have ih := heads_sorted c n _ hl (p2.filter _)
    have hv : ∀ v ∈ heads c (L.filter fun j => decide (c j ≠ c i)), v ≠ c i ∧ ((i :: L).filter fun j => decide (c j = v)) = (L.filter fun j => decide (c j ≠ c i)).filter fun j => decide (c j = v) := by
      intro v hv
      obtain ⟨j, hj, rfl⟩ := mem_heads.mp hv
      have hj := of_decide_eq_true (List.mem_filter.mp hj).2
      refine ⟨hj, ?_⟩
      rw [List.filter_cons_of_neg (by simpa using fun z => hj z.symm), List.filter_filter]
      refine List.filter_congr fun k _ => ?_
      by_cases z : c k = c j
      · simp [z, hj]
      · simp [z]
    rw [heads_cons, List.map_cons]
    refine List.pairwise_cons.mpr ⟨fun b hb => ?_, ?_⟩
    · obtain ⟨v, hvm, rfl⟩ := List.mem_map.mp hb
      obtain ⟨hne, e⟩ := hv v hvm
      obtain ⟨j, hj, hjv⟩ := mem_heads.mp hvm
      have hm : j ∈ (i :: L).filter fun j => decide (c j = v) := by
        rw [e]; exact List.mem_filter.mpr ⟨hj, decide_eq_true hjv⟩
      cases e2 : (i :: L).filter fun j => decide (c j = v) with
      | nil => rw [e2] at hm; cases hm
      | cons y b' =>
        refine ⟨i, _, y, b', List.filter_cons_of_pos (by simp), rfl, ?_⟩
        have hy : y ∈ (i :: L).filter fun j => decide (c j = v) := by rw [e2]; exact List.mem_cons_self
        rw [e] at hy
        exact p1 y (List.mem_filter.mp (List.mem_filter.mp hy).1).1
    · rw [List.map_congr_left fun v hvm => (hv v hvm).2]
      exact ih
theorem parts_sorted (p : Int) (ls : List Ln) : (partsL p ls).Pairwise HL := heads_sorted (clr p ls) _ (List.range ls.length) (Nat.le_refl _) List.pairwise_lt_range
theorem hl_ne {a b : List Nat} (h : HL a b) : a ≠ b := by
  obtain ⟨x, a', y, b', rfl, rfl, h⟩ := h
  intro e
  simp only [List.cons.injEq] at e
  omega
theorem parts_nodup (p : Int) (ls : List Ln) : (partsL p ls).Nodup := (parts_sorted p ls).imp hl_ne
theorem mem_parts {p : Int} {ls : List Ln} {a : List Nat} : a ∈ partsL p ls ↔ ∃ i, i < ls.length ∧ a = partAt p ls (clr p ls i) := by
  unfold partsL uss
  rw [List.mem_map]
  constructor
  · rintro ⟨u, hu, rfl⟩
    obtain ⟨i, hi, rfl⟩ := mem_heads.mp hu
    exact ⟨i, List.mem_range.mp hi, rfl⟩
  · rintro ⟨i, hi, rfl⟩
    exact ⟨_, mem_heads.mpr ⟨i, List.mem_range.mpr hi, rfl⟩, rfl⟩
theorem perm_ofL {α : Type} [BEq α] [LawfulBEq α] {l m : List α} (h1 : l.Nodup) (h2 : m.Nodup) (h : ∀ a, a ∈ l ↔ a ∈ m) : l.Perm m := by
  rw [List.perm_iff_count]
  intro a
  rw [h1.count, h2.count]
  by_cases z : a ∈ l
  · rw [if_pos z, if_pos ((h a).mp z)]
  · rw [if_neg z, if_neg fun y => z ((h a).mpr y)]
theorem parts_disj {p : Int} {ls : List Ln} {a b : List Nat} (ha : a ∈ partsL p ls) (hb : b ∈ partsL p ls) {i : Nat} (ia : i ∈ a) (ib : i ∈ b) : a = b := by
  obtain ⟨j, _, rfl⟩ := mem_parts.mp ha
  obtain ⟨k, _, rfl⟩ := mem_parts.mp hb
  rw [← (mem_partAt.mp ia).2, ← (mem_partAt.mp ib).2]
theorem flat_nodup {p : Int} {ls : List Ln} {L : List (List Nat)} (nd : L.Nodup) (hL : ∀ a ∈ L, a ∈ partsL p ls) : L.flatten.Nodup := by
  refine List.pairwise_flatten.mpr ⟨fun a ha => ?_, nd.imp_of_mem fun {a b} ha hb hab i hi j hj e => ?_⟩
  · obtain ⟨j, _, rfl⟩ := mem_parts.mp (hL a ha)
    exact List.nodup_range.filter _
  · subst e
    exact hab (parts_disj (hL a ha) (hL b hb) hi hj)
theorem flat_all (p : Int) (ls : List Ln) : (partsL p ls).flatten.Perm (List.range ls.length) := by
  refine perm_ofL (flat_nodup (parts_nodup p ls) fun _ h => h) List.nodup_range fun i => ?_
  rw [List.mem_flatten, List.mem_range]
  constructor
  · rintro ⟨a, ha, hi⟩
    obtain ⟨j, _, rfl⟩ := mem_parts.mp ha
    exact (mem_partAt.mp hi).1
  · intro hi
    exact ⟨_, mem_parts.mpr ⟨i, hi, rfl⟩, mem_partAt.mpr ⟨hi, rfl⟩⟩
/-! #### a line more behind the others -/
def tchP (ls : List Ln) (s o : Int) (part : List Nat) : Bool := decide (s ∈ met ls part) || decide (o ∈ met ls part)
section
variable {p : Int} {ls : List Ln} {l : Ln}
theorem tch_iff (h' : Bd p (ls ++ [l])) {i : Nat} (hi : i < ls.length) : tchP ls l.1 l.2.1 (partAt p ls (clr p ls i)) = true ↔ Tch p ls l (lat ls i).1 := by
  have h : Bd p ls := fun k hk => h' k (List.mem_append.mpr (.inl hk))
  obtain ⟨a0, a1, b0, b1⟩ := h' l (List.mem_append.mpr (.inr (List.mem_singleton.mpr rfl)))
  have hu : clr p ls i ∈ uss p ls := mem_heads.mpr ⟨i, List.mem_range.mpr hi, rfl⟩
  unfold tchP
  rw [Bool.or_eq_true, decide_eq_true_eq, decide_eq_true_eq, mem_met_part h hu, mem_met_part h hu]
  unfold Tch clr
  constructor
  · rintro (⟨_, e⟩ | ⟨_, e⟩)
    · exact .inl e.symm
    · exact .inr e.symm
  · rintro (e | e)
    · exact .inl ⟨⟨a0, a1⟩, e.symm⟩
    · exact .inr ⟨⟨b0, b1⟩, e.symm⟩
theorem lat_app {i : Nat} (hi : i < ls.length) : lat (ls ++ [l]) i = lat ls i := by
  unfold lat
  rw [List.getD_eq_getElem?_getD, List.getD_eq_getElem?_getD, List.getElem?_append_left hi]
theorem lat_new : lat (ls ++ [l]) ls.length = l := by
  unfold lat
  rw [List.getD_eq_getElem?_getD, List.getElem?_append_right (Nat.le_refl _)]
  simp
theorem hc_app (Q : Int → Prop) : Cl (ls ++ [l]) Q ↔ Cl ls Q ∧ (Q l.1 ↔ Q l.2.1) := cl_mem (fun x => by rw [List.mem_append, List.mem_singleton]; exact ⟨fun z => z.symm, fun z => z.symm⟩) Q
def newPart (p : Int) (ls : List Ln) (l : Ln) : List Nat := partAt p (ls ++ [l]) (cm p (ls ++ [l]) l.1)
theorem part_old (h' : Bd p (ls ++ [l])) {i : Nat} (hi : i < ls.length) (ht : ¬ Tch p ls l (lat ls i).1) : partAt p (ls ++ [l]) (clr p (ls ++ [l]) i) = partAt p ls (clr p ls i) := by
  have h : Bd p ls := fun k hk => h' k (List.mem_append.mpr (.inl hk))
  unfold partAt
  rw [List.length_append, List.length_cons, List.length_nil, List.range_succ, List.filter_append]
  have e1 : clr p (ls ++ [l]) i = clr p ls i := by
    unfold clr
    rw [lat_app hi]
    exact add_same h h' hc_app ht
  have e2 : ([ls.length].filter fun j => decide (clr p (ls ++ [l]) j = clr p (ls ++ [l]) i)) = [] := by
    refine List.filter_eq_nil_iff.mpr fun j hj => ?_
    rw [List.mem_singleton.mp hj, decide_eq_true_eq]
    unfold clr
    rw [lat_new, lat_app hi]
    exact add_sep h hc_app (.inl rfl) ht
  rw [e2, List.append_nil]
  refine List.filter_congr fun j hj => ?_
  have hj := List.mem_range.mp hj
  rw [e1]
  have e3 : clr p (ls ++ [l]) j = cm p (ls ++ [l]) (lat ls j).1 := by unfold clr; rw [lat_app hj]
  rw [e3, decide_eq_decide]
  by_cases hj2 : Tch p ls l (lat ls j).1
  · constructor
    · intro z
      refine absurd ?_ (add_sep h hc_app hj2 ht)
      rw [z]
      unfold clr
      exact (add_same h h' hc_app ht).symm
    · intro z
      exfalso
      refine ht ?_
      unfold clr at z
      unfold Tch
      rw [← z]
      exact hj2
  · rw [add_same h h' hc_app hj2]
    exact Iff.rfl
theorem mem_new (h' : Bd p (ls ++ [l])) {i : Nat} : i ∈ newPart p ls l ↔ i = ls.length ∨ (i < ls.length ∧ Tch p ls l (lat ls i).1) := by
  have h : Bd p ls := fun k hk => h' k (List.mem_append.mpr (.inl hk))
  unfold newPart
  rw [mem_partAt, List.length_append, List.length_cons, List.length_nil]
  constructor
  · rintro ⟨hi, e⟩
    rcases Nat.lt_or_ge i ls.length with z | z
    · refine .inr ⟨z, Classical.byContradiction fun ht => ?_⟩
      unfold clr at e
      rw [lat_app z] at e
      exact add_sep h hc_app (.inl rfl) ht e.symm
    · exact .inl (by omega)
  · rintro (rfl | ⟨hi, ht⟩)
    · refine ⟨by omega, ?_⟩
      unfold clr
      rw [lat_new]
    · refine ⟨by omega, ?_⟩
      unfold clr
      rw [lat_app hi]
      exact add_touch h h' hc_app ht
theorem part_new (h' : Bd p (ls ++ [l])) {i : Nat} (hi : i ∈ newPart p ls l) : partAt p (ls ++ [l]) (clr p (ls ++ [l]) i) = newPart p ls l := by
  unfold newPart at hi ⊢
  rw [(mem_partAt.mp hi).2]
/-- the parts with a line more -/
theorem longer_parts (h' : Bd p (ls ++ [l])) : (((partsL p ls).filter fun part => !tchP ls l.1 l.2.1 part) ++ [newPart p ls l]).Perm (partsL p (ls ++ [l])) := by
  have hn : ls.length ∈ newPart p ls l := (mem_new h').mpr (.inl rfl)
  refine perm_ofL ?_ (parts_nodup _ _) fun a => ?_
  · refine List.nodup_append.mpr ⟨(parts_nodup p ls).filter _, List.nodup_cons.mpr ⟨List.not_mem_nil, List.nodup_nil⟩, fun a ha b hb e => ?_⟩
    rw [List.mem_singleton.mp hb] at e
    obtain ⟨j, _, e2⟩ := mem_parts.mp (List.mem_filter.mp ha).1
    rw [← e, e2] at hn
    have := (mem_partAt.mp hn).1
    omega
  · rw [List.mem_append, List.mem_singleton, List.mem_filter, mem_parts, mem_parts]
    constructor
    · rintro (⟨⟨i, hi, rfl⟩, ht⟩ | rfl)
      · have ht : ¬ Tch p ls l (lat ls i).1 := fun z => by rw [(tch_iff h' hi).mpr z] at ht; cases ht
        exact ⟨i, by rw [List.length_append]; omega, (part_old h' hi ht).symm⟩
      · exact ⟨ls.length, by rw [List.length_append]; simp, (part_new h' hn).symm⟩
    · rintro ⟨i, hi, rfl⟩
      rw [List.length_append, List.length_cons, List.length_nil] at hi
      by_cases hin : i ∈ newPart p ls l
      · exact .inr (part_new h' hin)
      · have h1 : i < ls.length := by
          rcases Nat.lt_or_ge i ls.length with z | z
          · exact z
          · exact absurd ((mem_new h').mpr (.inl (by omega))) hin
        have ht : ¬ Tch p ls l (lat ls i).1 := fun z => hin ((mem_new h').mpr (.inr ⟨h1, z⟩))
        refine .inl ⟨⟨i, h1, part_old h' h1 ht⟩, ?_⟩
        rw [part_old h' h1 ht]
        cases e : tchP ls l.1 l.2.1 (partAt p ls (clr p ls i))
        · rfl
        · exact absurd ((tch_iff h' h1).mp e) ht
/-- the touched parts and the line make the new one -/
theorem touched_flat (h' : Bd p (ls ++ [l])) {L : List (List Nat)} (nd : L.Nodup) (hL : ∀ a, a ∈ L ↔ a ∈ partsL p ls ∧ tchP ls l.1 l.2.1 a = true) : (L.flatten ++ [ls.length]).Perm (newPart p ls l) := by
  have hsub : ∀ a ∈ L, a ∈ partsL p ls := fun a ha => ((hL a).mp ha).1
  refine perm_ofL (List.nodup_append.mpr ⟨flat_nodup nd hsub, List.nodup_cons.mpr ⟨List.not_mem_nil, List.nodup_nil⟩, fun i hi j hj e => ?_⟩) (List.nodup_range.filter _) fun i => ?_
  · rw [List.mem_singleton.mp hj] at e
    obtain ⟨a, ha, hi⟩ := List.mem_flatten.mp hi
    obtain ⟨k, _, rfl⟩ := mem_parts.mp (hsub a ha)
    have := (mem_partAt.mp hi).1
    omega
  · rw [mem_new h', List.mem_append, List.mem_singleton, List.mem_flatten]
    constructor
    · rintro (⟨a, ha, hi⟩ | rfl)
      · obtain ⟨h1, h2⟩ := (hL a).mp ha
        obtain ⟨k, hk, rfl⟩ := mem_parts.mp h1
        obtain ⟨hil, e⟩ := mem_partAt.mp hi
        rw [← e] at h2
        exact .inr ⟨hil, (tch_iff h' hil).mp h2⟩
      · exact .inl rfl
    · rintro (rfl | ⟨hi, ht⟩)
      · exact .inr rfl
      · exact .inl ⟨_, (hL _).mpr ⟨mem_parts.mpr ⟨i, hi, rfl⟩, (tch_iff h' hi).mpr ht⟩, mem_partAt.mpr ⟨hi, rfl⟩⟩
end
end Pt
end Lw

set_option maxHeartbeats 4000000
namespace Lw
open PySem Fu
local macro_rules | `(tactic| walk_at "e1") => `(tactic| first
  | with_reducible refine eo_seq ?_ | (with_reducible refine then_nx' ?_; refine ⟨?_, ?_, ?_⟩; rotate_left; · (try dsimp only [List.set, List.length_cons, List.length_nil, List.cons_append, List.nil_append, Nat.zero_add, Nat.reduceAdd]); exact rfl) | with_reducible refine then_rt ?_ | with_reducible refine eo_if ?_ | with_reducible refine eo_ret ?_ | with_reducible refine eo_set ?_ | with_reducible refine eo_asg ?_ | with_reducible refine eo_drop ?_ | with_reducible refine eo_nx ?_ | with_reducible refine eo_par ?_ | with_reducible refine eo_own ?_ | with_reducible refine eo_retN ?_ | with_reducible refine eo_for ?_ | with_reducible refine eo_retO ?_
  | with_reducible refine ev_c ?_ | (with_reducible refine ev_var ?_; refine ⟨_, rfl, ?_⟩) | with_reducible refine ev_bin ?_ | with_reducible refine ev_un ?_ | with_reducible refine ev_nil ?_ | with_reducible refine ev_cons ?_
  | with_reducible refine ev_tup ?_ | with_reducible refine ev_lst ?_ | with_reducible refine ev_call ?_ | with_reducible refine ev_callF ?_ | with_reducible refine ev_isi ?_ | with_reducible refine ev_isi2 ?_ | with_reducible refine ev_andV ?_ | with_reducible refine ev_orV ?_ | with_reducible refine ev_notV ?_
  | with_reducible refine ev_B ?_ | with_reducible refine ev_and ?_ | with_reducible refine ev_or ?_ | with_reducible refine ev_not ?_ | with_reducible refine ev_yes ?_ | with_reducible refine ev_if ?_ | with_reducible refine ev_no ?_ | with_reducible refine ev_so ?_ | with_reducible refine ev_sl ?_ | with_reducible refine ev_items ?_
  | (with_reducible refine ev_ixO ?_; refine ⟨_, _, rfl, rfl, ?_⟩) | (with_reducible refine ev_varO ?_; refine ⟨_, _, rfl, rfl, ?_⟩) | (with_reducible refine ev_lenO ?_; refine ⟨_, _, rfl, rfl, ?_⟩) | (with_reducible refine ev_scrSl ?_; refine ⟨_, rfl, ?_⟩) | (with_reducible refine ev_scrLen ?_; refine ⟨_, rfl, ?_⟩) | (with_reducible refine ev_callScr ?_; refine ⟨_, rfl, ?_⟩) | (with_reducible refine ev_OL ?_; refine ⟨_, _, rfl, rfl, ?_⟩) | with_reducible refine ev_OR ?_ | with_reducible refine ev_rep ?_ | with_reducible refine ev_listRng1 ?_ | with_reducible refine eo_setO ?_
  | with_reducible refine es_name ?_ | with_reducible refine es_tup2 ?_ | with_reducible refine es_tup3 ?_
  | with_reducible refine ed_addI ?_ | with_reducible refine ed_subI ?_ | with_reducible refine ed_cmp ?_ | with_reducible refine ed_eqI ?_ | with_reducible refine ed_neI ?_ | with_reducible refine ed_slT ?_ | with_reducible refine ed_slL ?_ | with_reducible refine ed_lenT ?_ | with_reducible refine ed_lenL ?_ | with_reducible refine ed_lenS ?_ | with_reducible refine ed_inS ?_ | with_reducible refine ed_itT ?_ | with_reducible refine ed_itL ?_ | with_reducible refine ed_tupL ?_ | with_reducible refine ed_tupT ?_ | with_reducible refine ed_listL ?_ | with_reducible refine ed_listT ?_ | with_reducible refine ed_neg ?_ | with_reducible refine ed_max ?_ | with_reducible refine ed_min ?_ | with_reducible refine ed_intB ?_)
local macro_rules | `(tactic| walk_at "e2") => `(tactic| first
  | walk_at "e1" | with_reducible refine ⟨_, rfl, ?_⟩ | with_reducible refine ⟨_, _, rfl, ?_⟩
  | with_reducible refine And.intro (Eq.refl (List.length _)) ?_ | with_reducible refine And.intro (Nat.le_of_ble_eq_true (n := List.length _) rfl) ?_
  | with_reducible refine And.intro (Eq.refl (_ : Sx)) (?_ : Ed _ _)
  | with_reducible exact gives_nx | with_reducible (refine gives_rt ?_; rfl))
local macro_rules | `(tactic| walk_at "e") => `(tactic| repeat walk_at "e2")
/-- begin a def's spec -/
local macro_rules | `(tactic| walk_at "i") => `(tactic| simp only [initS, List.map_cons, List.map_nil, List.length_cons, List.length_nil, Nat.reduceAdd, Nat.reduceSub, List.replicate, List.cons_append, List.nil_append])
def rv (es : List (Int × Int)) : List (Int × Int) := es.reverse.map far
def rot (k : Nat) (es : List (Int × Int)) : List (Int × Int) := es.drop k ++ es.take k
def ways (es : List (Int × Int)) : List (List (Int × Int)) := ((List.range es.length).map fun k => rot k es) ++ ((List.range es.length).map fun k => rot k (rv es))
def along (ls : List Ln) (es : List (Int × Int)) : List Int := es.map (plc ls) ++ [plc ls (far (lastE es))]
/-! ### rounds and rides, in plain words -/
/-! ### the least of all ways -/
end Lw

set_option maxHeartbeats 4000000
namespace Lw
open PySem Fu
local macro_rules | `(tactic| walk_at "e1") => `(tactic| first
  | with_reducible refine eo_seq ?_ | (with_reducible refine then_nx' ?_; refine ⟨?_, ?_, ?_⟩; rotate_left; · (try dsimp only [List.set, List.length_cons, List.length_nil, List.cons_append, List.nil_append, Nat.zero_add, Nat.reduceAdd]); exact rfl) | with_reducible refine then_rt ?_ | with_reducible refine eo_if ?_ | with_reducible refine eo_ret ?_ | with_reducible refine eo_set ?_ | with_reducible refine eo_asg ?_ | with_reducible refine eo_drop ?_ | with_reducible refine eo_nx ?_ | with_reducible refine eo_par ?_ | with_reducible refine eo_own ?_ | with_reducible refine eo_retN ?_ | with_reducible refine eo_for ?_ | with_reducible refine eo_retO ?_
  | with_reducible refine ev_c ?_ | (with_reducible refine ev_var ?_; refine ⟨_, rfl, ?_⟩) | with_reducible refine ev_bin ?_ | with_reducible refine ev_un ?_ | with_reducible refine ev_nil ?_ | with_reducible refine ev_cons ?_
  | with_reducible refine ev_tup ?_ | with_reducible refine ev_lst ?_ | with_reducible refine ev_call ?_ | with_reducible refine ev_callF ?_ | with_reducible refine ev_isi ?_ | with_reducible refine ev_isi2 ?_ | with_reducible refine ev_andV ?_ | with_reducible refine ev_orV ?_ | with_reducible refine ev_notV ?_
  | with_reducible refine ev_B ?_ | with_reducible refine ev_and ?_ | with_reducible refine ev_or ?_ | with_reducible refine ev_not ?_ | with_reducible refine ev_yes ?_ | with_reducible refine ev_if ?_ | with_reducible refine ev_no ?_ | with_reducible refine ev_so ?_ | with_reducible refine ev_sl ?_ | with_reducible refine ev_items ?_
  | (with_reducible refine ev_ixO ?_; refine ⟨_, _, rfl, rfl, ?_⟩) | (with_reducible refine ev_varO ?_; refine ⟨_, _, rfl, rfl, ?_⟩) | (with_reducible refine ev_lenO ?_; refine ⟨_, _, rfl, rfl, ?_⟩) | (with_reducible refine ev_scrSl ?_; refine ⟨_, rfl, ?_⟩) | (with_reducible refine ev_scrLen ?_; refine ⟨_, rfl, ?_⟩) | (with_reducible refine ev_callScr ?_; refine ⟨_, rfl, ?_⟩) | (with_reducible refine ev_OL ?_; refine ⟨_, _, rfl, rfl, ?_⟩) | with_reducible refine ev_OR ?_ | with_reducible refine ev_rep ?_ | with_reducible refine ev_listRng1 ?_ | with_reducible refine eo_setO ?_
  | with_reducible refine es_name ?_ | with_reducible refine es_tup2 ?_ | with_reducible refine es_tup3 ?_
  | with_reducible refine ed_addI ?_ | with_reducible refine ed_subI ?_ | with_reducible refine ed_cmp ?_ | with_reducible refine ed_eqI ?_ | with_reducible refine ed_neI ?_ | with_reducible refine ed_slT ?_ | with_reducible refine ed_slL ?_ | with_reducible refine ed_lenT ?_ | with_reducible refine ed_lenL ?_ | with_reducible refine ed_lenS ?_ | with_reducible refine ed_inS ?_ | with_reducible refine ed_itT ?_ | with_reducible refine ed_itL ?_ | with_reducible refine ed_tupL ?_ | with_reducible refine ed_tupT ?_ | with_reducible refine ed_listL ?_ | with_reducible refine ed_listT ?_ | with_reducible refine ed_neg ?_ | with_reducible refine ed_max ?_ | with_reducible refine ed_min ?_ | with_reducible refine ed_intB ?_
  | with_reducible refine ev_rng1 ?_ | with_reducible refine ev_rng2 ?_)
local macro_rules | `(tactic| walk_at "sd") => `(tactic| first | rfl | assumption | (simp only [decide_eq_true_eq, decide_eq_false_iff_not, Bool.not_eq_true', Bool.not_eq_false', Bool.and_eq_true, Bool.or_eq_true, List.length_map, List.length_cons, List.length_nil, List.length_append, List.length_range] at *; omega))
local macro_rules | `(tactic| walk_at "e2") => `(tactic| first
  | walk_at "e1" | with_reducible refine ⟨_, rfl, ?_⟩ | with_reducible refine ⟨_, _, rfl, ?_⟩
  | with_reducible refine And.intro (Eq.refl (List.length _)) ?_ | with_reducible refine And.intro (Nat.le_of_ble_eq_true (n := List.length _) rfl) ?_
  | with_reducible refine And.intro (Eq.refl (_ : Sx)) (?_ : Ed _ _)
  | ((with_reducible refine And.intro ?_ (And.intro ?_ (?_ : Ev _ _))); (· rfl); (· rfl))
  | ((with_reducible refine ed_ixT ?_ ?_ ?_); (· decide); (· rfl)) | ((with_reducible refine ed_ixL ?_ ?_ ?_); (· decide); (· rfl)) | ((with_reducible refine ed_at ?_ ?_ ?_); (· decide); (· rfl))
  | ((with_reducible refine ed_modI ?_ ?_); (· first | decide | omega))
  | with_reducible exact gives_nx | ((with_reducible refine gives_rt ?_); (· rfl)) | ((with_reducible refine And.intro ?_ ?_); (· exact rfl); (· with_reducible exact Eq.refl (_ : Sx))))
local macro_rules | `(tactic| walk_at "e") => `(tactic| repeat walk_at "e2")
/-- begin a def's spec -/
local macro_rules | `(tactic| walk_at "i") => `(tactic| simp only [initS, List.map_cons, List.map_nil, List.length_cons, List.length_nil, Nat.reduceAdd, Nat.reduceSub, List.replicate, List.cons_append, List.nil_append])
/-- a known truth decides -/
local macro_rules | `(tactic| walk_at "t") => `(tactic| first | ((with_reducible refine split_t ?_ ?_); (· walk_at "sd")) | ((with_reducible refine split_t' ?_ ?_); (· walk_at "sd")))
local macro_rules | `(tactic| walk_at "f") => `(tactic| first | ((with_reducible refine split_f ?_ ?_); (· walk_at "sd")) | ((with_reducible refine split_f' ?_ ?_); (· walk_at "sd")))
/-- all that is seen in a look -/
local macro_rules | `(tactic| walk_at "v") => `(tactic| (rw [sealAll_mk (by (simp only [List.set_cons_zero, List.set_cons_succ, List.map_cons, List.map_nil, sealS_none, sealS_dat, sealS_scr, sealS_own, List.getElem?_cons_zero, List.getElem?_cons_succ, sealC_lst]; rfl)) (by (simp only [List.set_cons_zero, List.set_cons_succ, List.map_cons, List.map_nil]; rfl))]))
/-! ### texts of data -/
theorem dEq_str (x y : Str) : dEq (.str x) (.str y) = some (.bool (decide (x = y))) := by
  unfold dEq
  split
  · congr 2
  · rfl
theorem dNe_str (x y : Str) : dNe (.str x) (.str y) = some (.bool (!decide (x = y))) := by
  unfold dNe
  split
  · congr 3
  · rfl
theorem dEq_str_self (x : Str) : dEq (.str x) (.str x) = some (.bool true) := by rw [dEq_str]; simp
theorem dNe_str_self (x : Str) : dNe (.str x) (.str x) = some (.bool false) := by rw [dNe_str]; simp
/-- what can be shown: its depth, its weight -/
structure Shw (n m : Nat) (d : D) : Prop where
  lay : d.canLay0 = true
  dep : d.depth ≤ n
  wt : d.weight ≤ m
  short : d.intsShort 13 = true
  sh : d.showable = true
theorem Shw.mono {n m n' m' : Nat} {d : D} (h : Shw n m d) (l : n ≤ n') (k : m ≤ m') : Shw n' m' d := ⟨h.lay, Nat.le_trans h.dep l, Nat.le_trans h.wt k, h.short, h.sh⟩
theorem Shw.ok {n m : Nat} {d : D} (h : Shw n m d) (hn : n ≤ 60) (hm : m ≤ 1048576) : showOk d = true := by
  unfold showOk
  have l : d.shown.length ≤ sizeLine := PyData.shown_fits (B := 13) (by decide) (by decide) (PyData.leavesShort_of_canLay0 13 d h.lay h.short) (by have := h.wt; omega)
  rw [sizeLine_eq] at l
  simp only [Bool.and_eq_true, decide_eq_true_eq, Bool.not_eq_true']
  exact ⟨⟨⟨⟨h.sh, PyData.hasDict_of_canLay d h.lay⟩, h.lay⟩, Nat.le_trans h.dep hn⟩, l⟩
theorem Shw.fine {n m : Nat} {d : D} (h : Shw n m d) : Fine n d := ⟨h.lay, h.dep⟩
/-! ### all tuples turned to lists -/
/-! ### how webs and rides are shown -/
end Lw

set_option maxHeartbeats 4000000
namespace Lw
open PySem Fu
local macro_rules | `(tactic| walk_at "e1") => `(tactic| first
  | with_reducible refine eo_seq ?_ | (with_reducible refine then_nx' ?_; refine ⟨?_, ?_, ?_⟩; rotate_left; · (try dsimp only [List.set, List.length_cons, List.length_nil, List.cons_append, List.nil_append, Nat.zero_add, Nat.reduceAdd]); exact rfl) | with_reducible refine then_rt ?_ | with_reducible refine eo_if ?_ | with_reducible refine eo_ret ?_ | with_reducible refine eo_set ?_ | with_reducible refine eo_asg ?_ | with_reducible refine eo_drop ?_ | with_reducible refine eo_nx ?_ | with_reducible refine eo_par ?_ | with_reducible refine eo_own ?_ | with_reducible refine eo_retN ?_ | with_reducible refine eo_for ?_ | with_reducible refine eo_retO ?_
  | with_reducible refine ev_c ?_ | (with_reducible refine ev_var ?_; refine ⟨_, rfl, ?_⟩) | with_reducible refine ev_bin ?_ | with_reducible refine ev_un ?_ | with_reducible refine ev_nil ?_ | with_reducible refine ev_cons ?_
  | with_reducible refine ev_tup ?_ | with_reducible refine ev_lst ?_ | with_reducible refine ev_call ?_ | with_reducible refine ev_callF ?_ | with_reducible refine ev_isi ?_ | with_reducible refine ev_isi2 ?_ | with_reducible refine ev_andV ?_ | with_reducible refine ev_orV ?_ | with_reducible refine ev_notV ?_
  | with_reducible refine ev_B ?_ | with_reducible refine ev_and ?_ | with_reducible refine ev_or ?_ | with_reducible refine ev_not ?_ | with_reducible refine ev_yes ?_ | with_reducible refine ev_if ?_ | with_reducible refine ev_no ?_ | with_reducible refine ev_so ?_ | with_reducible refine ev_sl ?_ | with_reducible refine ev_items ?_
  | (with_reducible refine ev_ixO ?_; refine ⟨_, _, rfl, rfl, ?_⟩) | (with_reducible refine ev_varO ?_; refine ⟨_, _, rfl, rfl, ?_⟩) | (with_reducible refine ev_lenO ?_; refine ⟨_, _, rfl, rfl, ?_⟩) | (with_reducible refine ev_scrSl ?_; refine ⟨_, rfl, ?_⟩) | (with_reducible refine ev_scrLen ?_; refine ⟨_, rfl, ?_⟩) | (with_reducible refine ev_callScr ?_; refine ⟨_, rfl, ?_⟩) | (with_reducible refine ev_OL ?_; refine ⟨_, _, rfl, rfl, ?_⟩) | with_reducible refine ev_OR ?_ | with_reducible refine ev_rep ?_ | with_reducible refine ev_listRng1 ?_ | with_reducible refine eo_setO ?_
  | with_reducible refine es_name ?_ | with_reducible refine es_tup2 ?_ | with_reducible refine es_tup3 ?_
  | with_reducible refine ed_addI ?_ | with_reducible refine ed_subI ?_ | with_reducible refine ed_cmp ?_ | with_reducible refine ed_eqI ?_ | with_reducible refine ed_neI ?_ | with_reducible refine ed_slT ?_ | with_reducible refine ed_slL ?_ | with_reducible refine ed_lenT ?_ | with_reducible refine ed_lenL ?_ | with_reducible refine ed_lenS ?_ | with_reducible refine ed_inS ?_ | with_reducible refine ed_itT ?_ | with_reducible refine ed_itL ?_ | with_reducible refine ed_tupL ?_ | with_reducible refine ed_tupT ?_ | with_reducible refine ed_listL ?_ | with_reducible refine ed_listT ?_ | with_reducible refine ed_neg ?_ | with_reducible refine ed_max ?_ | with_reducible refine ed_min ?_ | with_reducible refine ed_intB ?_)
local macro_rules | `(tactic| walk_at "e2") => `(tactic| first
  | walk_at "e1" | with_reducible refine ⟨_, rfl, ?_⟩ | with_reducible refine ⟨_, _, rfl, ?_⟩
  | with_reducible refine And.intro (Eq.refl (List.length _)) ?_ | with_reducible refine And.intro (Nat.le_of_ble_eq_true (n := List.length _) rfl) ?_
  | with_reducible refine And.intro (Eq.refl (_ : Sx)) (?_ : Ed _ _)
  | with_reducible exact gives_nx | with_reducible (refine gives_rt ?_; rfl))
local macro_rules | `(tactic| walk_at "e") => `(tactic| repeat walk_at "e2")
/-- begin a def's spec -/
local macro_rules | `(tactic| walk_at "i") => `(tactic| simp only [initS, List.map_cons, List.map_nil, List.length_cons, List.length_nil, Nat.reduceAdd, Nat.reduceSub, List.replicate, List.cons_append, List.nil_append])
namespace Sp
/-! ### the circle that the law plants -/
def lastN (sg : List Nat) : Nat := sg.getLast?.getD 0
def headN (sg : List Nat) : Nat := sg.head?.getD 0
structure Signs (sg : List Nat) : Prop where
  all : ∀ c ∈ sg, 97 ≤ c ∧ c ≤ 100
  adj : ∀ i a b, sg[i]? = some a → sg[i + 1]? = some b → a ≠ b
/-- the line at one step of the circle -/
def stepLn (n : Nat) (sp : List Int) (sg : List Nat) (i : Nat) (s : Int) : Ln :=
  if s = 0 then (sp.getD i 0, sp.getD ((i + 1) % n) 0, sg.getD i 0) else (sp.getD ((i + 1) % n) 0, sp.getD i 0, sg.getD i 0)
structure Half (p : Int) (first n k : Nat) (sp : List Int) (sg : List Nat) (L : List Nat) (qs : List (Option Ln)) (es : List (Int × Int)) : Prop where
  len : L.length + k = n
  nd : L.Nodup
  lt : ∀ m ∈ L, m < n
  qlen : qs.length = n
  free : ∀ m ∈ L, qs[m]? = some none
  full : ∀ m, m < n → m ∉ L → ∃ l, qs[m]? = some (some l) ∧ LnOk p l
  elen : es.length = k
  at' : ∀ i, i < k → ∃ (m : Nat) (s : Int), es[i]? = some (((first + m : Nat) : Int), s) ∧ m < n ∧ m ∉ L ∧ (s = 0 ∨ s = 1) ∧ qs[m]? = some (some (stepLn n sp sg i s))
  end' : (es.map Prod.fst).Nodup
  sub : ∀ e ∈ es, ∃ m : Nat, e.1 = ((first + m : Nat) : Int) ∧ m < n ∧ m ∉ L
theorem Half.step {p : Int} {first n k : Nat} {sp : List Int} {sg L : List Nat} {qs : List (Option Ln)} {es : List (Int × Int)} {v m : Nat} {s : Int} (h : Half p first n k sp sg L qs es) (hv : L[v]? = some m) (hs : s = 0 ∨ s = 1) (hl : LnOk p (stepLn n sp sg k s)) :
    Half p first n (k + 1) sp sg (L.eraseIdx v) (qs.set m (some (stepLn n sp sg k s))) (es ++ [(((first + m : Nat) : Int), s)]) := by
  obtain ⟨hvl, hve⟩ := List.getElem?_eq_some_iff.mp hv
  have hm : m ∈ L := List.mem_of_getElem? hv
  have hmn := h.lt m hm
  have hne : m ∉ L.eraseIdx v := by
    intro z
    rw [List.mem_eraseIdx_iff_getElem?] at z
    obtain ⟨i, hi, he⟩ := z
    obtain ⟨hil, hie⟩ := List.getElem?_eq_some_iff.mp he
    exact hi ((List.getElem_inj h.nd).mp (hie.trans hve.symm))
  have hsub : ∀ x ∈ L.eraseIdx v, x ∈ L := fun x hx => List.mem_of_mem_eraseIdx hx
  have hback : ∀ x ∈ L, x ≠ m → x ∈ L.eraseIdx v := fun x hx hxm => by
    rw [List.mem_eraseIdx_iff_getElem?]
    obtain ⟨i, hi⟩ := List.mem_iff_getElem?.mp hx
    refine ⟨i, fun e => ?_, hi⟩
    subst e
    rw [hv] at hi
    cases hi; exact hxm rfl
  refine ⟨?_, h.nd.sublist (List.eraseIdx_sublist L v), fun x hx => h.lt x (hsub x hx), by rw [List.length_set]; exact h.qlen, fun x hx => ?_, fun x hx hxl => ?_, ?_, fun i hi => ?_, ?_, fun e he => ?_⟩
  · rw [List.length_eraseIdx, if_pos hvl]
    have := h.len
    omega
  · rw [List.getElem?_set_ne (fun e : m = x => hne (by rw [e]; exact hx))]
    exact h.free x (hsub x hx)
  · by_cases e : x = m
    · subst e
      exact ⟨_, List.getElem?_set_self (by rw [h.qlen]; exact hx), hl⟩
    · rw [List.getElem?_set_ne (fun z => e z.symm)]
      exact h.full x hx fun z => hxl (hback x z e)
  · rw [List.length_append, h.elen]; rfl
  · by_cases hik : i < k
    · obtain ⟨x, t, h1, h2, h3, h4, h5⟩ := h.at' i hik
      refine ⟨x, t, by rw [List.getElem?_append_left (by rw [h.elen]; exact hik)]; exact h1, h2, fun z => h3 (hsub x z), h4, ?_⟩
      rw [List.getElem?_set_ne (fun z : m = x => h3 (by rw [← z]; exact hm))]
      exact h5
    · have : i = k := by omega
      subst this
      refine ⟨m, s, ?_, hmn, hne, hs, List.getElem?_set_self (by rw [h.qlen]; exact hmn)⟩
      rw [List.getElem?_append_right (by rw [h.elen]; exact Nat.le_refl _), h.elen, Nat.sub_self]; rfl
  · rw [List.map_append, List.nodup_append]
    refine ⟨h.end', by simp, fun a ha c hc => ?_⟩
    obtain ⟨e, he, rfl⟩ := List.mem_map.mp ha
    have hc : c = ((first + m : Nat) : Int) := by simpa using hc
    obtain ⟨x, h1, h2, h3⟩ := h.sub e he
    intro z
    have : x = m := by omega
    exact h3 (this ▸ hm)
  · rcases List.mem_append.mp he with he | he
    · obtain ⟨x, h1, h2, h3⟩ := h.sub e he
      exact ⟨x, h1, h2, fun z => h3 (hsub x z)⟩
    · rw [List.mem_singleton.mp he]
      exact ⟨m, rfl, hmn, hne⟩
structure Circ (p : Int) (first n : Nat) (sp : List Int) (sg : List Nat) (ks : List Ln) (es : List (Int × Int)) : Prop where
  spOk : ∀ x ∈ sp, 0 ≤ x ∧ x < p
  spl : sp.length = n
  sgOk : Signs sg
  sgl : sg.length = n
  ends : lastN sg ≠ headN sg
  half : Half p first n n sp sg [] (ks.map some) es
theorem all_some {α : Type} : ∀ {qs : List (Option α)}, (∀ q ∈ qs, ∃ l, q = some l) → ∃ ks : List α, qs = ks.map some
  | [], _ => ⟨[], rfl⟩
  | q :: qs, h => by
    obtain ⟨l, rfl⟩ := h q List.mem_cons_self
    obtain ⟨ks, rfl⟩ := all_some fun x hx => h x (List.mem_cons_of_mem _ hx)
    exact ⟨l :: ks, rfl⟩
/-! ### a planted round -/
theorem Circ.at {p : Int} {n : Nat} {sp : List Int} {sg : List Nat} {ks more : List Ln} {es : List (Int × Int)} (h : Circ p 0 n sp sg ks es) {i : Nat} (hi : i < n) :
    ∃ e, es[i]? = some e ∧ EndOk (ks ++ more).length e ∧ plc (ks ++ more) e = sp.getD i 0 ∧ plc (ks ++ more) (far e) = sp.getD ((i + 1) % n) 0 ∧ cmpy (ks ++ more) e = sg.getD i 0 := by
  obtain ⟨m, s, h1, h2, _, hs, h5⟩ := h.half.at' i hi
  have hk : ks.length = n := by have := h.half.qlen; rwa [List.length_map] at this
  rw [Nat.zero_add] at h1
  have h6 : (ks ++ more)[m]? = some (stepLn n sp sg i s) := by
    rw [List.getElem?_append_left (by omega)]
    rw [List.getElem?_map] at h5
    obtain ⟨l, e1, e2⟩ := Option.map_eq_some_iff.mp h5
    cases e2
    exact e1
  refine ⟨_, h1, ⟨by simp, by simp; omega, by simp only; omega, by simp only; omega⟩, ?_, ?_, ?_⟩
  · unfold plc
    simp only [Int.toNat_natCast, h6]
    rcases hs with rfl | rfl <;> simp [sideOf, stepLn]
  · unfold plc far
    simp only [Int.toNat_natCast, h6]
    rcases hs with rfl | rfl <;> simp [sideOf, stepLn]
  · unfold cmpy
    simp only [Int.toNat_natCast, h6]
    rcases hs with rfl | rfl <;> simp [stepLn]
end Sp
end Lw

set_option maxHeartbeats 4000000
namespace Lw
open PySem Fu
local macro_rules | `(tactic| walk_at "e1") => `(tactic| first
  | with_reducible refine eo_seq ?_ | (with_reducible refine then_nx' ?_; refine ⟨?_, ?_, ?_⟩; rotate_left; · (try dsimp only [List.set, List.length_cons, List.length_nil, List.cons_append, List.nil_append, Nat.zero_add, Nat.reduceAdd]); exact rfl) | with_reducible refine then_rt ?_ | with_reducible refine eo_if ?_ | with_reducible refine eo_ret ?_ | with_reducible refine eo_set ?_ | with_reducible refine eo_asg ?_ | with_reducible refine eo_drop ?_ | with_reducible refine eo_nx ?_ | with_reducible refine eo_par ?_ | with_reducible refine eo_own ?_ | with_reducible refine eo_retN ?_ | with_reducible refine eo_for ?_ | with_reducible refine eo_retO ?_
  | with_reducible refine ev_c ?_ | (with_reducible refine ev_var ?_; refine ⟨_, rfl, ?_⟩) | with_reducible refine ev_bin ?_ | with_reducible refine ev_un ?_ | with_reducible refine ev_nil ?_ | with_reducible refine ev_cons ?_
  | with_reducible refine ev_tup ?_ | with_reducible refine ev_lst ?_ | with_reducible refine ev_call ?_ | with_reducible refine ev_callF ?_ | with_reducible refine ev_isi ?_ | with_reducible refine ev_isi2 ?_ | with_reducible refine ev_andV ?_ | with_reducible refine ev_orV ?_ | with_reducible refine ev_notV ?_
  | with_reducible refine ev_B ?_ | with_reducible refine ev_and ?_ | with_reducible refine ev_or ?_ | with_reducible refine ev_not ?_ | with_reducible refine ev_yes ?_ | with_reducible refine ev_if ?_ | with_reducible refine ev_no ?_ | with_reducible refine ev_so ?_ | with_reducible refine ev_sl ?_ | with_reducible refine ev_items ?_
  | (with_reducible refine ev_ixO ?_; refine ⟨_, _, rfl, rfl, ?_⟩) | (with_reducible refine ev_varO ?_; refine ⟨_, _, rfl, rfl, ?_⟩) | (with_reducible refine ev_lenO ?_; refine ⟨_, _, rfl, rfl, ?_⟩) | (with_reducible refine ev_scrSl ?_; refine ⟨_, rfl, ?_⟩) | (with_reducible refine ev_scrLen ?_; refine ⟨_, rfl, ?_⟩) | (with_reducible refine ev_callScr ?_; refine ⟨_, rfl, ?_⟩) | (with_reducible refine ev_OL ?_; refine ⟨_, _, rfl, rfl, ?_⟩) | with_reducible refine ev_OR ?_ | with_reducible refine ev_rep ?_ | with_reducible refine ev_listRng1 ?_ | with_reducible refine eo_setO ?_
  | with_reducible refine es_name ?_ | with_reducible refine es_tup2 ?_ | with_reducible refine es_tup3 ?_
  | with_reducible refine ed_addI ?_ | with_reducible refine ed_subI ?_ | with_reducible refine ed_cmp ?_ | with_reducible refine ed_eqI ?_ | with_reducible refine ed_neI ?_ | with_reducible refine ed_slT ?_ | with_reducible refine ed_slL ?_ | with_reducible refine ed_lenT ?_ | with_reducible refine ed_lenL ?_ | with_reducible refine ed_lenS ?_ | with_reducible refine ed_inS ?_ | with_reducible refine ed_itT ?_ | with_reducible refine ed_itL ?_ | with_reducible refine ed_tupL ?_ | with_reducible refine ed_tupT ?_ | with_reducible refine ed_listL ?_ | with_reducible refine ed_listT ?_ | with_reducible refine ed_neg ?_ | with_reducible refine ed_max ?_ | with_reducible refine ed_min ?_ | with_reducible refine ed_intB ?_
  | with_reducible refine ev_rng1 ?_ | with_reducible refine ev_rng2 ?_)
local macro_rules | `(tactic| walk_at "sd") => `(tactic| first | rfl | assumption | (simp only [decide_eq_true_eq, decide_eq_false_iff_not, Bool.not_eq_true', Bool.not_eq_false', Bool.and_eq_true, Bool.or_eq_true, List.length_map, List.length_cons, List.length_nil, List.length_append, List.length_range] at *; omega))
local macro_rules | `(tactic| walk_at "e2") => `(tactic| first
  | walk_at "e1" | with_reducible refine ⟨_, rfl, ?_⟩ | with_reducible refine ⟨_, _, rfl, ?_⟩
  | with_reducible refine And.intro (Eq.refl (List.length _)) ?_ | with_reducible refine And.intro (Nat.le_of_ble_eq_true (n := List.length _) rfl) ?_
  | with_reducible refine And.intro (Eq.refl (_ : Sx)) (?_ : Ed _ _)
  | ((with_reducible refine And.intro ?_ (And.intro ?_ (?_ : Ev _ _))); (· rfl); (· rfl))
  | ((with_reducible refine ed_ixT ?_ ?_ ?_); (· decide); (· rfl)) | ((with_reducible refine ed_ixL ?_ ?_ ?_); (· decide); (· rfl)) | ((with_reducible refine ed_at ?_ ?_ ?_); (· decide); (· rfl))
  | ((with_reducible refine ed_modI ?_ ?_); (· first | decide | omega))
  | with_reducible exact gives_nx | ((with_reducible refine gives_rt ?_); (· rfl)) | ((with_reducible refine And.intro ?_ ?_); (· exact rfl); (· with_reducible exact Eq.refl (_ : Sx))))
local macro_rules | `(tactic| walk_at "e") => `(tactic| repeat walk_at "e2")
/-- begin a def's spec -/
local macro_rules | `(tactic| walk_at "i") => `(tactic| simp only [initS, List.map_cons, List.map_nil, List.length_cons, List.length_nil, Nat.reduceAdd, Nat.reduceSub, List.replicate, List.cons_append, List.nil_append])
/-- a known truth decides -/
local macro_rules | `(tactic| walk_at "t") => `(tactic| first | ((with_reducible refine split_t ?_ ?_); (· walk_at "sd")) | ((with_reducible refine split_t' ?_ ?_); (· walk_at "sd")))
local macro_rules | `(tactic| walk_at "f") => `(tactic| first | ((with_reducible refine split_f ?_ ?_); (· walk_at "sd")) | ((with_reducible refine split_f' ?_ ?_); (· walk_at "sd")))
/-- all that is seen in a look -/
local macro_rules | `(tactic| walk_at "v") => `(tactic| (rw [sealAll_mk (by (simp only [List.set_cons_zero, List.set_cons_succ, List.map_cons, List.map_nil, sealS_none, sealS_dat, sealS_scr, sealS_own, List.getElem?_cons_zero, List.getElem?_cons_succ, sealC_lst]; rfl)) (by (simp only [List.set_cons_zero, List.set_cons_succ, List.map_cons, List.map_nil]; rfl))]))
/-! ### the law's own looks -/
/-- a list that is empty or not -/
theorem ed_ne_nil {n : Nat} {xs : List D} {Q : D → Prop} (h : ∀ x ∈ xs, Fine n x) (q : Q (.bool !decide (xs = []))) (hn : n ≤ 60 := by decide) : Ed (dNe (.list xs) (.list [])) Q := by
  refine ⟨_, ?_, q⟩
  unfold dNe
  rw [if_pos ⟨(fine_list h).shaped (by omega), (fine_list (n := 0) (ds := []) (fun _ h => nomatch h)).shaped⟩]
  cases xs <;> simp [PyData.eqv, PyData.eqvAll]
end Lw

set_option maxHeartbeats 4000000
namespace Lw
open PySem Fu
local macro_rules | `(tactic| walk_at "e1") => `(tactic| first
  | with_reducible refine eo_seq ?_ | (with_reducible refine then_nx' ?_; refine ⟨?_, ?_, ?_⟩; rotate_left; · (try dsimp only [List.set, List.length_cons, List.length_nil, List.cons_append, List.nil_append, Nat.zero_add, Nat.reduceAdd]); exact rfl) | with_reducible refine then_rt ?_ | with_reducible refine eo_if ?_ | with_reducible refine eo_ret ?_ | with_reducible refine eo_set ?_ | with_reducible refine eo_asg ?_ | with_reducible refine eo_drop ?_ | with_reducible refine eo_nx ?_ | with_reducible refine eo_par ?_ | with_reducible refine eo_own ?_ | with_reducible refine eo_retN ?_ | with_reducible refine eo_for ?_ | with_reducible refine eo_retO ?_
  | with_reducible refine ev_c ?_ | (with_reducible refine ev_var ?_; refine ⟨_, rfl, ?_⟩) | with_reducible refine ev_bin ?_ | with_reducible refine ev_un ?_ | with_reducible refine ev_nil ?_ | with_reducible refine ev_cons ?_
  | with_reducible refine ev_tup ?_ | with_reducible refine ev_lst ?_ | with_reducible refine ev_call ?_ | with_reducible refine ev_callF ?_ | with_reducible refine ev_isi ?_ | with_reducible refine ev_isi2 ?_ | with_reducible refine ev_andV ?_ | with_reducible refine ev_orV ?_ | with_reducible refine ev_notV ?_
  | with_reducible refine ev_B ?_ | with_reducible refine ev_and ?_ | with_reducible refine ev_or ?_ | with_reducible refine ev_not ?_ | with_reducible refine ev_yes ?_ | with_reducible refine ev_if ?_ | with_reducible refine ev_no ?_ | with_reducible refine ev_so ?_ | with_reducible refine ev_sl ?_ | with_reducible refine ev_items ?_
  | (with_reducible refine ev_ixO ?_; refine ⟨_, _, rfl, rfl, ?_⟩) | (with_reducible refine ev_varO ?_; refine ⟨_, _, rfl, rfl, ?_⟩) | (with_reducible refine ev_lenO ?_; refine ⟨_, _, rfl, rfl, ?_⟩) | (with_reducible refine ev_scrSl ?_; refine ⟨_, rfl, ?_⟩) | (with_reducible refine ev_scrLen ?_; refine ⟨_, rfl, ?_⟩) | (with_reducible refine ev_callScr ?_; refine ⟨_, rfl, ?_⟩) | (with_reducible refine ev_OL ?_; refine ⟨_, _, rfl, rfl, ?_⟩) | with_reducible refine ev_OR ?_ | with_reducible refine ev_rep ?_ | with_reducible refine ev_listRng1 ?_ | with_reducible refine eo_setO ?_
  | with_reducible refine es_name ?_ | with_reducible refine es_tup2 ?_ | with_reducible refine es_tup3 ?_
  | with_reducible refine ed_addI ?_ | with_reducible refine ed_subI ?_ | with_reducible refine ed_cmp ?_ | with_reducible refine ed_eqI ?_ | with_reducible refine ed_neI ?_ | with_reducible refine ed_slT ?_ | with_reducible refine ed_slL ?_ | with_reducible refine ed_lenT ?_ | with_reducible refine ed_lenL ?_ | with_reducible refine ed_lenS ?_ | with_reducible refine ed_inS ?_ | with_reducible refine ed_itT ?_ | with_reducible refine ed_itL ?_ | with_reducible refine ed_tupL ?_ | with_reducible refine ed_tupT ?_ | with_reducible refine ed_listL ?_ | with_reducible refine ed_listT ?_ | with_reducible refine ed_neg ?_ | with_reducible refine ed_max ?_ | with_reducible refine ed_min ?_ | with_reducible refine ed_intB ?_
  | with_reducible refine ev_rng1 ?_ | with_reducible refine ev_rng2 ?_)
local macro_rules | `(tactic| walk_at "sd") => `(tactic| first | rfl | assumption | (simp only [decide_eq_true_eq, decide_eq_false_iff_not, Bool.not_eq_true', Bool.not_eq_false', Bool.and_eq_true, Bool.or_eq_true, List.length_map, List.length_cons, List.length_nil, List.length_append, List.length_range] at *; omega))
local macro_rules | `(tactic| walk_at "e2") => `(tactic| first
  | walk_at "e1" | with_reducible refine ⟨_, rfl, ?_⟩ | with_reducible refine ⟨_, _, rfl, ?_⟩
  | with_reducible refine And.intro (Eq.refl (List.length _)) ?_ | with_reducible refine And.intro (Nat.le_of_ble_eq_true (n := List.length _) rfl) ?_
  | with_reducible refine And.intro (Eq.refl (_ : Sx)) (?_ : Ed _ _)
  | ((with_reducible refine And.intro ?_ (And.intro ?_ (?_ : Ev _ _))); (· rfl); (· rfl))
  | ((with_reducible refine ed_ixT ?_ ?_ ?_); (· decide); (· rfl)) | ((with_reducible refine ed_ixL ?_ ?_ ?_); (· decide); (· rfl)) | ((with_reducible refine ed_at ?_ ?_ ?_); (· decide); (· rfl))
  | ((with_reducible refine ed_modI ?_ ?_); (· first | decide | omega))
  | with_reducible exact gives_nx | ((with_reducible refine gives_rt ?_); (· rfl)) | ((with_reducible refine And.intro ?_ ?_); (· exact rfl); (· with_reducible exact Eq.refl (_ : Sx))))
local macro_rules | `(tactic| walk_at "e") => `(tactic| repeat walk_at "e2")
/-- begin a def's spec -/
local macro_rules | `(tactic| walk_at "i") => `(tactic| simp only [initS, List.map_cons, List.map_nil, List.length_cons, List.length_nil, Nat.reduceAdd, Nat.reduceSub, List.replicate, List.cons_append, List.nil_append])
/-- a known truth decides -/
local macro_rules | `(tactic| walk_at "t") => `(tactic| first | ((with_reducible refine split_t ?_ ?_); (· walk_at "sd")) | ((with_reducible refine split_t' ?_ ?_); (· walk_at "sd")))
local macro_rules | `(tactic| walk_at "f") => `(tactic| first | ((with_reducible refine split_f ?_ ?_); (· walk_at "sd")) | ((with_reducible refine split_f' ?_ ?_); (· walk_at "sd")))
/-- all that is seen in a look -/
local macro_rules | `(tactic| walk_at "v") => `(tactic| (rw [sealAll_mk (by (simp only [List.set_cons_zero, List.set_cons_succ, List.map_cons, List.map_nil, sealS_none, sealS_dat, sealS_scr, sealS_own, List.getElem?_cons_zero, List.getElem?_cons_succ, sealC_lst]; rfl)) (by (simp only [List.set_cons_zero, List.set_cons_succ, List.map_cons, List.map_nil]; rfl))]))
namespace Sp
end Sp
end Lw

set_option maxHeartbeats 4000000
namespace Lw
open PySem Fu
local macro_rules | `(tactic| walk_at "e1") => `(tactic| first
  | with_reducible refine eo_seq ?_ | (with_reducible refine then_nx' ?_; refine ⟨?_, ?_, ?_⟩; rotate_left; · (try dsimp only [List.set, List.length_cons, List.length_nil, List.cons_append, List.nil_append, Nat.zero_add, Nat.reduceAdd]); exact rfl) | with_reducible refine then_rt ?_ | with_reducible refine eo_if ?_ | with_reducible refine eo_ret ?_ | with_reducible refine eo_set ?_ | with_reducible refine eo_asg ?_ | with_reducible refine eo_drop ?_ | with_reducible refine eo_nx ?_ | with_reducible refine eo_par ?_ | with_reducible refine eo_own ?_ | with_reducible refine eo_retN ?_ | with_reducible refine eo_for ?_ | with_reducible refine eo_retO ?_
  | with_reducible refine ev_c ?_ | (with_reducible refine ev_var ?_; refine ⟨_, rfl, ?_⟩) | with_reducible refine ev_bin ?_ | with_reducible refine ev_un ?_ | with_reducible refine ev_nil ?_ | with_reducible refine ev_cons ?_
  | with_reducible refine ev_tup ?_ | with_reducible refine ev_lst ?_ | with_reducible refine ev_call ?_ | with_reducible refine ev_callF ?_ | with_reducible refine ev_isi ?_ | with_reducible refine ev_isi2 ?_ | with_reducible refine ev_andV ?_ | with_reducible refine ev_orV ?_ | with_reducible refine ev_notV ?_
  | with_reducible refine ev_B ?_ | with_reducible refine ev_and ?_ | with_reducible refine ev_or ?_ | with_reducible refine ev_not ?_ | with_reducible refine ev_yes ?_ | with_reducible refine ev_if ?_ | with_reducible refine ev_no ?_ | with_reducible refine ev_so ?_ | with_reducible refine ev_sl ?_ | with_reducible refine ev_items ?_
  | (with_reducible refine ev_ixO ?_; refine ⟨_, _, rfl, rfl, ?_⟩) | (with_reducible refine ev_varO ?_; refine ⟨_, _, rfl, rfl, ?_⟩) | (with_reducible refine ev_lenO ?_; refine ⟨_, _, rfl, rfl, ?_⟩) | (with_reducible refine ev_scrSl ?_; refine ⟨_, rfl, ?_⟩) | (with_reducible refine ev_scrLen ?_; refine ⟨_, rfl, ?_⟩) | (with_reducible refine ev_callScr ?_; refine ⟨_, rfl, ?_⟩) | (with_reducible refine ev_OL ?_; refine ⟨_, _, rfl, rfl, ?_⟩) | with_reducible refine ev_OR ?_ | with_reducible refine ev_rep ?_ | with_reducible refine ev_listRng1 ?_ | with_reducible refine eo_setO ?_
  | with_reducible refine es_name ?_ | with_reducible refine es_tup2 ?_ | with_reducible refine es_tup3 ?_
  | with_reducible refine ed_addI ?_ | with_reducible refine ed_subI ?_ | with_reducible refine ed_cmp ?_ | with_reducible refine ed_eqI ?_ | with_reducible refine ed_neI ?_ | with_reducible refine ed_slT ?_ | with_reducible refine ed_slL ?_ | with_reducible refine ed_lenT ?_ | with_reducible refine ed_lenL ?_ | with_reducible refine ed_lenS ?_ | with_reducible refine ed_inS ?_ | with_reducible refine ed_itT ?_ | with_reducible refine ed_itL ?_ | with_reducible refine ed_tupL ?_ | with_reducible refine ed_tupT ?_ | with_reducible refine ed_listL ?_ | with_reducible refine ed_listT ?_ | with_reducible refine ed_neg ?_ | with_reducible refine ed_max ?_ | with_reducible refine ed_min ?_ | with_reducible refine ed_intB ?_
  | with_reducible refine ev_rng1 ?_ | with_reducible refine ev_rng2 ?_)
local macro_rules | `(tactic| walk_at "sd") => `(tactic| first | rfl | assumption | (simp only [decide_eq_true_eq, decide_eq_false_iff_not, Bool.not_eq_true', Bool.not_eq_false', Bool.and_eq_true, Bool.or_eq_true, List.length_map, List.length_cons, List.length_nil, List.length_append, List.length_range] at *; omega))
local macro_rules | `(tactic| walk_at "e2") => `(tactic| first
  | walk_at "e1" | with_reducible refine ⟨_, rfl, ?_⟩ | with_reducible refine ⟨_, _, rfl, ?_⟩
  | with_reducible refine And.intro (Eq.refl (List.length _)) ?_ | with_reducible refine And.intro (Nat.le_of_ble_eq_true (n := List.length _) rfl) ?_
  | with_reducible refine And.intro (Eq.refl (_ : Sx)) (?_ : Ed _ _)
  | ((with_reducible refine And.intro ?_ (And.intro ?_ (?_ : Ev _ _))); (· rfl); (· rfl))
  | ((with_reducible refine ed_ixT ?_ ?_ ?_); (· decide); (· rfl)) | ((with_reducible refine ed_ixL ?_ ?_ ?_); (· decide); (· rfl)) | ((with_reducible refine ed_at ?_ ?_ ?_); (· decide); (· rfl))
  | ((with_reducible refine ed_modI ?_ ?_); (· first | decide | omega))
  | with_reducible exact gives_nx | ((with_reducible refine gives_rt ?_); (· rfl)) | ((with_reducible refine And.intro ?_ ?_); (· exact rfl); (· with_reducible exact Eq.refl (_ : Sx))))
local macro_rules | `(tactic| walk_at "e") => `(tactic| repeat walk_at "e2")
/-- begin a def's spec -/
local macro_rules | `(tactic| walk_at "i") => `(tactic| simp only [initS, List.map_cons, List.map_nil, List.length_cons, List.length_nil, Nat.reduceAdd, Nat.reduceSub, List.replicate, List.cons_append, List.nil_append])
/-- a known truth decides -/
local macro_rules | `(tactic| walk_at "t") => `(tactic| first | ((with_reducible refine split_t ?_ ?_); (· walk_at "sd")) | ((with_reducible refine split_t' ?_ ?_); (· walk_at "sd")))
local macro_rules | `(tactic| walk_at "f") => `(tactic| first | ((with_reducible refine split_f ?_ ?_); (· walk_at "sd")) | ((with_reducible refine split_f' ?_ ?_); (· walk_at "sd")))
/-- all that is seen in a look -/
local macro_rules | `(tactic| walk_at "v") => `(tactic| (rw [sealAll_mk (by (simp only [List.set_cons_zero, List.set_cons_succ, List.map_cons, List.map_nil, sealS_none, sealS_dat, sealS_scr, sealS_own, List.getElem?_cons_zero, List.getElem?_cons_succ, sealC_lst]; rfl)) (by (simp only [List.set_cons_zero, List.set_cons_succ, List.map_cons, List.map_nil]; rfl))]))
namespace Sp
/-- a text of letters -/
def Letters (x : Str) : Prop := 0 < x.length ∧ x.length ≤ 26 ∧ ∀ c ∈ x.cps.toList, Let c
theorem letters_few {x : Str} {l : List Nat} (e : x.cps.toList = l) (h0 : 0 < l.length) (h1 : l.length ≤ 26) (h : ∀ c ∈ l, Let c) : Letters x := by
  have : x.length = l.length := by rw [← e, Array.length_toList]; rfl
  exact ⟨by omega, by omega, by rw [e]; exact h⟩
end Sp
end Lw

set_option maxHeartbeats 4000000
namespace Lw
open PySem Fu
local macro_rules | `(tactic| walk_at "e1") => `(tactic| first
  | with_reducible refine eo_seq ?_ | (with_reducible refine then_nx' ?_; refine ⟨?_, ?_, ?_⟩; rotate_left; · (try dsimp only [List.set, List.length_cons, List.length_nil, List.cons_append, List.nil_append, Nat.zero_add, Nat.reduceAdd]); exact rfl) | with_reducible refine then_rt ?_ | with_reducible refine eo_if ?_ | with_reducible refine eo_ret ?_ | with_reducible refine eo_set ?_ | with_reducible refine eo_asg ?_ | with_reducible refine eo_drop ?_ | with_reducible refine eo_nx ?_ | with_reducible refine eo_par ?_ | with_reducible refine eo_own ?_ | with_reducible refine eo_retN ?_ | with_reducible refine eo_for ?_ | with_reducible refine eo_retO ?_
  | with_reducible refine ev_c ?_ | (with_reducible refine ev_var ?_; refine ⟨_, rfl, ?_⟩) | with_reducible refine ev_bin ?_ | with_reducible refine ev_un ?_ | with_reducible refine ev_nil ?_ | with_reducible refine ev_cons ?_
  | with_reducible refine ev_tup ?_ | with_reducible refine ev_lst ?_ | with_reducible refine ev_call ?_ | with_reducible refine ev_callF ?_ | with_reducible refine ev_isi ?_ | with_reducible refine ev_isi2 ?_ | with_reducible refine ev_andV ?_ | with_reducible refine ev_orV ?_ | with_reducible refine ev_notV ?_
  | with_reducible refine ev_B ?_ | with_reducible refine ev_and ?_ | with_reducible refine ev_or ?_ | with_reducible refine ev_not ?_ | with_reducible refine ev_yes ?_ | with_reducible refine ev_if ?_ | with_reducible refine ev_no ?_ | with_reducible refine ev_so ?_ | with_reducible refine ev_sl ?_ | with_reducible refine ev_items ?_
  | (with_reducible refine ev_ixO ?_; refine ⟨_, _, rfl, rfl, ?_⟩) | (with_reducible refine ev_varO ?_; refine ⟨_, _, rfl, rfl, ?_⟩) | (with_reducible refine ev_lenO ?_; refine ⟨_, _, rfl, rfl, ?_⟩) | (with_reducible refine ev_scrSl ?_; refine ⟨_, rfl, ?_⟩) | (with_reducible refine ev_scrLen ?_; refine ⟨_, rfl, ?_⟩) | (with_reducible refine ev_callScr ?_; refine ⟨_, rfl, ?_⟩) | (with_reducible refine ev_OL ?_; refine ⟨_, _, rfl, rfl, ?_⟩) | with_reducible refine ev_OR ?_ | with_reducible refine ev_rep ?_ | with_reducible refine ev_listRng1 ?_ | with_reducible refine eo_setO ?_
  | with_reducible refine es_name ?_ | with_reducible refine es_tup2 ?_ | with_reducible refine es_tup3 ?_
  | with_reducible refine ed_addI ?_ | with_reducible refine ed_subI ?_ | with_reducible refine ed_cmp ?_ | with_reducible refine ed_eqI ?_ | with_reducible refine ed_neI ?_ | with_reducible refine ed_slT ?_ | with_reducible refine ed_slL ?_ | with_reducible refine ed_lenT ?_ | with_reducible refine ed_lenL ?_ | with_reducible refine ed_lenS ?_ | with_reducible refine ed_inS ?_ | with_reducible refine ed_itT ?_ | with_reducible refine ed_itL ?_ | with_reducible refine ed_tupL ?_ | with_reducible refine ed_tupT ?_ | with_reducible refine ed_listL ?_ | with_reducible refine ed_listT ?_ | with_reducible refine ed_neg ?_ | with_reducible refine ed_max ?_ | with_reducible refine ed_min ?_ | with_reducible refine ed_intB ?_
  | with_reducible refine ev_rng1 ?_ | with_reducible refine ev_rng2 ?_)
local macro_rules | `(tactic| walk_at "sd") => `(tactic| first | rfl | assumption | (simp only [decide_eq_true_eq, decide_eq_false_iff_not, Bool.not_eq_true', Bool.not_eq_false', Bool.and_eq_true, Bool.or_eq_true, List.length_map, List.length_cons, List.length_nil, List.length_append, List.length_range] at *; omega))
local macro_rules | `(tactic| walk_at "e2") => `(tactic| first
  | walk_at "e1" | with_reducible refine ⟨_, rfl, ?_⟩ | with_reducible refine ⟨_, _, rfl, ?_⟩
  | with_reducible refine And.intro (Eq.refl (List.length _)) ?_ | with_reducible refine And.intro (Nat.le_of_ble_eq_true (n := List.length _) rfl) ?_
  | with_reducible refine And.intro (Eq.refl (_ : Sx)) (?_ : Ed _ _)
  | ((with_reducible refine And.intro ?_ (And.intro ?_ (?_ : Ev _ _))); (· rfl); (· rfl))
  | ((with_reducible refine ed_ixT ?_ ?_ ?_); (· decide); (· rfl)) | ((with_reducible refine ed_ixL ?_ ?_ ?_); (· decide); (· rfl)) | ((with_reducible refine ed_at ?_ ?_ ?_); (· decide); (· rfl))
  | ((with_reducible refine ed_modI ?_ ?_); (· first | decide | omega))
  | with_reducible exact gives_nx | ((with_reducible refine gives_rt ?_); (· rfl)) | ((with_reducible refine And.intro ?_ ?_); (· exact rfl); (· with_reducible exact Eq.refl (_ : Sx))))
local macro_rules | `(tactic| walk_at "e") => `(tactic| repeat walk_at "e2")
/-- begin a def's spec -/
local macro_rules | `(tactic| walk_at "i") => `(tactic| simp only [initS, List.map_cons, List.map_nil, List.length_cons, List.length_nil, Nat.reduceAdd, Nat.reduceSub, List.replicate, List.cons_append, List.nil_append])
/-- a known truth decides -/
local macro_rules | `(tactic| walk_at "t") => `(tactic| first | ((with_reducible refine split_t ?_ ?_); (· walk_at "sd")) | ((with_reducible refine split_t' ?_ ?_); (· walk_at "sd")))
local macro_rules | `(tactic| walk_at "f") => `(tactic| first | ((with_reducible refine split_f ?_ ?_); (· walk_at "sd")) | ((with_reducible refine split_f' ?_ ?_); (· walk_at "sd")))
/-- all that is seen in a look -/
local macro_rules | `(tactic| walk_at "v") => `(tactic| (rw [sealAll_mk (by (simp only [List.set_cons_zero, List.set_cons_succ, List.map_cons, List.map_nil, sealS_none, sealS_dat, sealS_scr, sealS_own, List.getElem?_cons_zero, List.getElem?_cons_succ, sealC_lst]; rfl)) (by (simp only [List.set_cons_zero, List.set_cons_succ, List.map_cons, List.map_nil]; rfl))]))
theorem ed_notInI {ns : List Int} {i : Int} {Q : D → Prop} (h : Q (.bool (!decide (i ∈ ns)))) : Ed (dNotIn (.int i) (.list (ns.map PyData.int))) Q := by
  refine ⟨_, ?_, h⟩
  dsimp only [dNotIn]
  rw [if_pos ⟨(fine_int i).shaped, (fine_list (n := 0) fun d hd => by obtain ⟨n, _, rfl⟩ := List.mem_map.mp hd; exact fine_int n).shaped⟩]
  congr 3
  rw [Bool.eq_iff_iff, List.any_map, List.any_eq_true, decide_eq_true_eq]
  constructor
  · rintro ⟨x, hx, e⟩
    have : x = i := by simpa [PyData.eqv] using e
    exact this ▸ hx
  · intro hx
    exact ⟨i, hx, by simp [PyData.eqv]⟩
theorem ed_inI {ns : List Int} {i : Int} {Q : D → Prop} (h : Q (.bool (decide (i ∈ ns)))) : Ed (dIn (.int i) (.list (ns.map PyData.int))) Q := by
  refine ⟨_, ?_, h⟩
  dsimp only [dIn]
  rw [if_pos ⟨(fine_int i).shaped, (fine_list (n := 0) fun d hd => by obtain ⟨n, _, rfl⟩ := List.mem_map.mp hd; exact fine_int n).shaped⟩]
  congr 2
  rw [Bool.eq_iff_iff, List.any_map, List.any_eq_true, decide_eq_true_eq]
  constructor
  · rintro ⟨x, hx, e⟩
    have : x = i := by simpa [PyData.eqv] using e
    exact this ▸ hx
  · intro hx
    exact ⟨i, hx, by simp [PyData.eqv]⟩
namespace Sp
end Sp
end Lw

set_option maxHeartbeats 4000000
namespace Lw
open PySem Fu
local macro_rules | `(tactic| walk_at "e1") => `(tactic| first
  | with_reducible refine eo_seq ?_ | (with_reducible refine then_nx' ?_; refine ⟨?_, ?_, ?_⟩; rotate_left; · (try dsimp only [List.set, List.length_cons, List.length_nil, List.cons_append, List.nil_append, Nat.zero_add, Nat.reduceAdd]); exact rfl) | with_reducible refine then_rt ?_ | with_reducible refine eo_if ?_ | with_reducible refine eo_ret ?_ | with_reducible refine eo_set ?_ | with_reducible refine eo_asg ?_ | with_reducible refine eo_drop ?_ | with_reducible refine eo_nx ?_ | with_reducible refine eo_par ?_ | with_reducible refine eo_own ?_ | with_reducible refine eo_retN ?_ | with_reducible refine eo_for ?_ | with_reducible refine eo_retO ?_
  | with_reducible refine ev_c ?_ | (with_reducible refine ev_var ?_; refine ⟨_, rfl, ?_⟩) | with_reducible refine ev_bin ?_ | with_reducible refine ev_un ?_ | with_reducible refine ev_nil ?_ | with_reducible refine ev_cons ?_
  | with_reducible refine ev_tup ?_ | with_reducible refine ev_lst ?_ | with_reducible refine ev_call ?_ | with_reducible refine ev_callF ?_ | with_reducible refine ev_isi ?_ | with_reducible refine ev_isi2 ?_ | with_reducible refine ev_andV ?_ | with_reducible refine ev_orV ?_ | with_reducible refine ev_notV ?_
  | with_reducible refine ev_B ?_ | with_reducible refine ev_and ?_ | with_reducible refine ev_or ?_ | with_reducible refine ev_not ?_ | with_reducible refine ev_yes ?_ | with_reducible refine ev_if ?_ | with_reducible refine ev_no ?_ | with_reducible refine ev_so ?_ | with_reducible refine ev_sl ?_ | with_reducible refine ev_items ?_
  | (with_reducible refine ev_ixO ?_; refine ⟨_, _, rfl, rfl, ?_⟩) | (with_reducible refine ev_varO ?_; refine ⟨_, _, rfl, rfl, ?_⟩) | (with_reducible refine ev_lenO ?_; refine ⟨_, _, rfl, rfl, ?_⟩) | (with_reducible refine ev_scrSl ?_; refine ⟨_, rfl, ?_⟩) | (with_reducible refine ev_scrLen ?_; refine ⟨_, rfl, ?_⟩) | (with_reducible refine ev_callScr ?_; refine ⟨_, rfl, ?_⟩) | (with_reducible refine ev_OL ?_; refine ⟨_, _, rfl, rfl, ?_⟩) | with_reducible refine ev_OR ?_ | with_reducible refine ev_rep ?_ | with_reducible refine ev_listRng1 ?_ | with_reducible refine eo_setO ?_
  | with_reducible refine es_name ?_ | with_reducible refine es_tup2 ?_ | with_reducible refine es_tup3 ?_
  | with_reducible refine ed_addI ?_ | with_reducible refine ed_subI ?_ | with_reducible refine ed_cmp ?_ | with_reducible refine ed_eqI ?_ | with_reducible refine ed_neI ?_ | with_reducible refine ed_slT ?_ | with_reducible refine ed_slL ?_ | with_reducible refine ed_lenT ?_ | with_reducible refine ed_lenL ?_ | with_reducible refine ed_lenS ?_ | with_reducible refine ed_inS ?_ | with_reducible refine ed_itT ?_ | with_reducible refine ed_itL ?_ | with_reducible refine ed_tupL ?_ | with_reducible refine ed_tupT ?_ | with_reducible refine ed_listL ?_ | with_reducible refine ed_listT ?_ | with_reducible refine ed_neg ?_ | with_reducible refine ed_max ?_ | with_reducible refine ed_min ?_ | with_reducible refine ed_intB ?_
  | with_reducible refine ev_rng1 ?_ | with_reducible refine ev_rng2 ?_)
local macro_rules | `(tactic| walk_at "sd") => `(tactic| first | rfl | assumption | (simp only [decide_eq_true_eq, decide_eq_false_iff_not, Bool.not_eq_true', Bool.not_eq_false', Bool.and_eq_true, Bool.or_eq_true, List.length_map, List.length_cons, List.length_nil, List.length_append, List.length_range] at *; omega))
local macro_rules | `(tactic| walk_at "e2") => `(tactic| first
  | walk_at "e1" | with_reducible refine ⟨_, rfl, ?_⟩ | with_reducible refine ⟨_, _, rfl, ?_⟩
  | with_reducible refine And.intro (Eq.refl (List.length _)) ?_ | with_reducible refine And.intro (Nat.le_of_ble_eq_true (n := List.length _) rfl) ?_
  | with_reducible refine And.intro (Eq.refl (_ : Sx)) (?_ : Ed _ _)
  | ((with_reducible refine And.intro ?_ (And.intro ?_ (?_ : Ev _ _))); (· rfl); (· rfl))
  | ((with_reducible refine ed_ixT ?_ ?_ ?_); (· decide); (· rfl)) | ((with_reducible refine ed_ixL ?_ ?_ ?_); (· decide); (· rfl)) | ((with_reducible refine ed_at ?_ ?_ ?_); (· decide); (· rfl))
  | ((with_reducible refine ed_modI ?_ ?_); (· first | decide | omega))
  | with_reducible exact gives_nx | ((with_reducible refine gives_rt ?_); (· rfl)) | ((with_reducible refine And.intro ?_ ?_); (· exact rfl); (· with_reducible exact Eq.refl (_ : Sx))))
local macro_rules | `(tactic| walk_at "e") => `(tactic| repeat walk_at "e2")
/-- begin a def's spec -/
local macro_rules | `(tactic| walk_at "i") => `(tactic| simp only [initS, List.map_cons, List.map_nil, List.length_cons, List.length_nil, Nat.reduceAdd, Nat.reduceSub, List.replicate, List.cons_append, List.nil_append])
/-- a known truth decides -/
local macro_rules | `(tactic| walk_at "t") => `(tactic| first | ((with_reducible refine split_t ?_ ?_); (· walk_at "sd")) | ((with_reducible refine split_t' ?_ ?_); (· walk_at "sd")))
local macro_rules | `(tactic| walk_at "f") => `(tactic| first | ((with_reducible refine split_f ?_ ?_); (· walk_at "sd")) | ((with_reducible refine split_f' ?_ ?_); (· walk_at "sd")))
/-- all that is seen in a look -/
local macro_rules | `(tactic| walk_at "v") => `(tactic| (rw [sealAll_mk (by (simp only [List.set_cons_zero, List.set_cons_succ, List.map_cons, List.map_nil, sealS_none, sealS_dat, sealS_scr, sealS_own, List.getElem?_cons_zero, List.getElem?_cons_succ, sealC_lst]; rfl)) (by (simp only [List.set_cons_zero, List.set_cons_succ, List.map_cons, List.map_nil]; rfl))]))
namespace Sp
end Sp
end Lw

set_option maxHeartbeats 4000000
namespace Lw
open PySem Fu
local macro_rules | `(tactic| walk_at "e1") => `(tactic| first
  | with_reducible refine eo_seq ?_ | (with_reducible refine then_nx' ?_; refine ⟨?_, ?_, ?_⟩; rotate_left; · (try dsimp only [List.set, List.length_cons, List.length_nil, List.cons_append, List.nil_append, Nat.zero_add, Nat.reduceAdd]); exact rfl) | with_reducible refine then_rt ?_ | with_reducible refine eo_if ?_ | with_reducible refine eo_ret ?_ | with_reducible refine eo_set ?_ | with_reducible refine eo_asg ?_ | with_reducible refine eo_drop ?_ | with_reducible refine eo_nx ?_ | with_reducible refine eo_par ?_ | with_reducible refine eo_own ?_ | with_reducible refine eo_retN ?_ | with_reducible refine eo_for ?_ | with_reducible refine eo_retO ?_
  | with_reducible refine ev_c ?_ | (with_reducible refine ev_var ?_; refine ⟨_, rfl, ?_⟩) | with_reducible refine ev_bin ?_ | with_reducible refine ev_un ?_ | with_reducible refine ev_nil ?_ | with_reducible refine ev_cons ?_
  | with_reducible refine ev_tup ?_ | with_reducible refine ev_lst ?_ | with_reducible refine ev_call ?_ | with_reducible refine ev_callF ?_ | with_reducible refine ev_isi ?_ | with_reducible refine ev_isi2 ?_ | with_reducible refine ev_andV ?_ | with_reducible refine ev_orV ?_ | with_reducible refine ev_notV ?_
  | with_reducible refine ev_B ?_ | with_reducible refine ev_and ?_ | with_reducible refine ev_or ?_ | with_reducible refine ev_not ?_ | with_reducible refine ev_yes ?_ | with_reducible refine ev_if ?_ | with_reducible refine ev_no ?_ | with_reducible refine ev_so ?_ | with_reducible refine ev_sl ?_ | with_reducible refine ev_items ?_
  | (with_reducible refine ev_ixO ?_; refine ⟨_, _, rfl, rfl, ?_⟩) | (with_reducible refine ev_varO ?_; refine ⟨_, _, rfl, rfl, ?_⟩) | (with_reducible refine ev_lenO ?_; refine ⟨_, _, rfl, rfl, ?_⟩) | (with_reducible refine ev_scrSl ?_; refine ⟨_, rfl, ?_⟩) | (with_reducible refine ev_scrLen ?_; refine ⟨_, rfl, ?_⟩) | (with_reducible refine ev_callScr ?_; refine ⟨_, rfl, ?_⟩) | (with_reducible refine ev_OL ?_; refine ⟨_, _, rfl, rfl, ?_⟩) | with_reducible refine ev_OR ?_ | with_reducible refine ev_rep ?_ | with_reducible refine ev_listRng1 ?_ | with_reducible refine eo_setO ?_
  | with_reducible refine es_name ?_ | with_reducible refine es_tup2 ?_ | with_reducible refine es_tup3 ?_
  | with_reducible refine ed_addI ?_ | with_reducible refine ed_subI ?_ | with_reducible refine ed_cmp ?_ | with_reducible refine ed_eqI ?_ | with_reducible refine ed_neI ?_ | with_reducible refine ed_slT ?_ | with_reducible refine ed_slL ?_ | with_reducible refine ed_lenT ?_ | with_reducible refine ed_lenL ?_ | with_reducible refine ed_lenS ?_ | with_reducible refine ed_inS ?_ | with_reducible refine ed_itT ?_ | with_reducible refine ed_itL ?_ | with_reducible refine ed_tupL ?_ | with_reducible refine ed_tupT ?_ | with_reducible refine ed_listL ?_ | with_reducible refine ed_listT ?_ | with_reducible refine ed_neg ?_ | with_reducible refine ed_max ?_ | with_reducible refine ed_min ?_ | with_reducible refine ed_intB ?_
  | with_reducible refine ev_rng1 ?_ | with_reducible refine ev_rng2 ?_)
local macro_rules | `(tactic| walk_at "sd") => `(tactic| first | rfl | assumption | (simp only [decide_eq_true_eq, decide_eq_false_iff_not, Bool.not_eq_true', Bool.not_eq_false', Bool.and_eq_true, Bool.or_eq_true, List.length_map, List.length_cons, List.length_nil, List.length_append, List.length_range] at *; omega))
local macro_rules | `(tactic| walk_at "e2") => `(tactic| first
  | walk_at "e1" | with_reducible refine ⟨_, rfl, ?_⟩ | with_reducible refine ⟨_, _, rfl, ?_⟩
  | with_reducible refine And.intro (Eq.refl (List.length _)) ?_ | with_reducible refine And.intro (Nat.le_of_ble_eq_true (n := List.length _) rfl) ?_
  | with_reducible refine And.intro (Eq.refl (_ : Sx)) (?_ : Ed _ _)
  | ((with_reducible refine And.intro ?_ (And.intro ?_ (?_ : Ev _ _))); (· rfl); (· rfl))
  | ((with_reducible refine ed_ixT ?_ ?_ ?_); (· decide); (· rfl)) | ((with_reducible refine ed_ixL ?_ ?_ ?_); (· decide); (· rfl)) | ((with_reducible refine ed_at ?_ ?_ ?_); (· decide); (· rfl))
  | ((with_reducible refine ed_modI ?_ ?_); (· first | decide | omega))
  | with_reducible exact gives_nx | ((with_reducible refine gives_rt ?_); (· rfl)) | ((with_reducible refine And.intro ?_ ?_); (· exact rfl); (· with_reducible exact Eq.refl (_ : Sx))))
local macro_rules | `(tactic| walk_at "e") => `(tactic| repeat walk_at "e2")
/-- begin a def's spec -/
local macro_rules | `(tactic| walk_at "i") => `(tactic| simp only [initS, List.map_cons, List.map_nil, List.length_cons, List.length_nil, Nat.reduceAdd, Nat.reduceSub, List.replicate, List.cons_append, List.nil_append])
/-- a known truth decides -/
local macro_rules | `(tactic| walk_at "t") => `(tactic| first | ((with_reducible refine split_t ?_ ?_); (· walk_at "sd")) | ((with_reducible refine split_t' ?_ ?_); (· walk_at "sd")))
local macro_rules | `(tactic| walk_at "f") => `(tactic| first | ((with_reducible refine split_f ?_ ?_); (· walk_at "sd")) | ((with_reducible refine split_f' ?_ ?_); (· walk_at "sd")))
/-- all that is seen in a look -/
local macro_rules | `(tactic| walk_at "v") => `(tactic| (rw [sealAll_mk (by (simp only [List.set_cons_zero, List.set_cons_succ, List.map_cons, List.map_nil, sealS_none, sealS_dat, sealS_scr, sealS_own, List.getElem?_cons_zero, List.getElem?_cons_succ, sealC_lst]; rfl)) (by (simp only [List.set_cons_zero, List.set_cons_succ, List.map_cons, List.map_nil]; rfl))]))
namespace Sp
end Sp
end Lw

set_option maxHeartbeats 4000000
namespace Lw
open PySem Fu
local macro_rules | `(tactic| walk_at "e1") => `(tactic| first
  | with_reducible refine eo_seq ?_ | (with_reducible refine then_nx' ?_; refine ⟨?_, ?_, ?_⟩; rotate_left; · (try dsimp only [List.set, List.length_cons, List.length_nil, List.cons_append, List.nil_append, Nat.zero_add, Nat.reduceAdd]); exact rfl) | with_reducible refine then_rt ?_ | with_reducible refine eo_if ?_ | with_reducible refine eo_ret ?_ | with_reducible refine eo_set ?_ | with_reducible refine eo_asg ?_ | with_reducible refine eo_drop ?_ | with_reducible refine eo_nx ?_ | with_reducible refine eo_par ?_ | with_reducible refine eo_own ?_ | with_reducible refine eo_retN ?_ | with_reducible refine eo_for ?_ | with_reducible refine eo_retO ?_
  | with_reducible refine ev_c ?_ | (with_reducible refine ev_var ?_; refine ⟨_, rfl, ?_⟩) | with_reducible refine ev_bin ?_ | with_reducible refine ev_un ?_ | with_reducible refine ev_nil ?_ | with_reducible refine ev_cons ?_
  | with_reducible refine ev_tup ?_ | with_reducible refine ev_lst ?_ | with_reducible refine ev_call ?_ | with_reducible refine ev_callF ?_ | with_reducible refine ev_isi ?_ | with_reducible refine ev_isi2 ?_ | with_reducible refine ev_andV ?_ | with_reducible refine ev_orV ?_ | with_reducible refine ev_notV ?_
  | with_reducible refine ev_B ?_ | with_reducible refine ev_and ?_ | with_reducible refine ev_or ?_ | with_reducible refine ev_not ?_ | with_reducible refine ev_yes ?_ | with_reducible refine ev_if ?_ | with_reducible refine ev_no ?_ | with_reducible refine ev_so ?_ | with_reducible refine ev_sl ?_ | with_reducible refine ev_items ?_
  | (with_reducible refine ev_ixO ?_; refine ⟨_, _, rfl, rfl, ?_⟩) | (with_reducible refine ev_varO ?_; refine ⟨_, _, rfl, rfl, ?_⟩) | (with_reducible refine ev_lenO ?_; refine ⟨_, _, rfl, rfl, ?_⟩) | (with_reducible refine ev_scrSl ?_; refine ⟨_, rfl, ?_⟩) | (with_reducible refine ev_scrLen ?_; refine ⟨_, rfl, ?_⟩) | (with_reducible refine ev_callScr ?_; refine ⟨_, rfl, ?_⟩) | (with_reducible refine ev_OL ?_; refine ⟨_, _, rfl, rfl, ?_⟩) | with_reducible refine ev_OR ?_ | with_reducible refine ev_rep ?_ | with_reducible refine ev_listRng1 ?_ | with_reducible refine eo_setO ?_
  | with_reducible refine es_name ?_ | with_reducible refine es_tup2 ?_ | with_reducible refine es_tup3 ?_
  | with_reducible refine ed_addI ?_ | with_reducible refine ed_subI ?_ | with_reducible refine ed_cmp ?_ | with_reducible refine ed_eqI ?_ | with_reducible refine ed_neI ?_ | with_reducible refine ed_slT ?_ | with_reducible refine ed_slL ?_ | with_reducible refine ed_lenT ?_ | with_reducible refine ed_lenL ?_ | with_reducible refine ed_lenS ?_ | with_reducible refine ed_inS ?_ | with_reducible refine ed_itT ?_ | with_reducible refine ed_itL ?_ | with_reducible refine ed_tupL ?_ | with_reducible refine ed_tupT ?_ | with_reducible refine ed_listL ?_ | with_reducible refine ed_listT ?_ | with_reducible refine ed_neg ?_ | with_reducible refine ed_max ?_ | with_reducible refine ed_min ?_ | with_reducible refine ed_intB ?_
  | with_reducible refine ev_rng1 ?_ | with_reducible refine ev_rng2 ?_)
local macro_rules | `(tactic| walk_at "sd") => `(tactic| first | rfl | assumption | (simp only [decide_eq_true_eq, decide_eq_false_iff_not, Bool.not_eq_true', Bool.not_eq_false', Bool.and_eq_true, Bool.or_eq_true, List.length_map, List.length_cons, List.length_nil, List.length_append, List.length_range] at *; omega))
local macro_rules | `(tactic| walk_at "e2") => `(tactic| first
  | walk_at "e1" | with_reducible refine ⟨_, rfl, ?_⟩ | with_reducible refine ⟨_, _, rfl, ?_⟩
  | with_reducible refine And.intro (Eq.refl (List.length _)) ?_ | with_reducible refine And.intro (Nat.le_of_ble_eq_true (n := List.length _) rfl) ?_
  | with_reducible refine And.intro (Eq.refl (_ : Sx)) (?_ : Ed _ _)
  | ((with_reducible refine And.intro ?_ (And.intro ?_ (?_ : Ev _ _))); (· rfl); (· rfl))
  | ((with_reducible refine ed_ixT ?_ ?_ ?_); (· decide); (· rfl)) | ((with_reducible refine ed_ixL ?_ ?_ ?_); (· decide); (· rfl)) | ((with_reducible refine ed_at ?_ ?_ ?_); (· decide); (· rfl))
  | ((with_reducible refine ed_modI ?_ ?_); (· first | decide | omega))
  | with_reducible exact gives_nx | ((with_reducible refine gives_rt ?_); (· rfl)) | ((with_reducible refine And.intro ?_ ?_); (· exact rfl); (· with_reducible exact Eq.refl (_ : Sx))))
local macro_rules | `(tactic| walk_at "e") => `(tactic| repeat walk_at "e2")
/-- begin a def's spec -/
local macro_rules | `(tactic| walk_at "i") => `(tactic| simp only [initS, List.map_cons, List.map_nil, List.length_cons, List.length_nil, Nat.reduceAdd, Nat.reduceSub, List.replicate, List.cons_append, List.nil_append])
/-- a known truth decides -/
local macro_rules | `(tactic| walk_at "t") => `(tactic| first | ((with_reducible refine split_t ?_ ?_); (· walk_at "sd")) | ((with_reducible refine split_t' ?_ ?_); (· walk_at "sd")))
local macro_rules | `(tactic| walk_at "f") => `(tactic| first | ((with_reducible refine split_f ?_ ?_); (· walk_at "sd")) | ((with_reducible refine split_f' ?_ ?_); (· walk_at "sd")))
/-- all that is seen in a look -/
local macro_rules | `(tactic| walk_at "v") => `(tactic| (rw [sealAll_mk (by (simp only [List.set_cons_zero, List.set_cons_succ, List.map_cons, List.map_nil, sealS_none, sealS_dat, sealS_scr, sealS_own, List.getElem?_cons_zero, List.getElem?_cons_succ, sealC_lst]; rfl)) (by (simp only [List.set_cons_zero, List.set_cons_succ, List.map_cons, List.map_nil]; rfl))]))
namespace Bg
/-! ### the bag -/
structure Bag (b : Nat) (cs : List D) : Prop where
  ex : ∃ (ns : List Int) (pos : Nat) (rest cnt total : Int), cs = [.list (ns.map .int), .int pos, .int rest, .int cnt, .int total] ∧ ns.length ≤ 63 ∧ pos ≤ ns.length ∧ 0 ≤ rest ∧ 0 ≤ cnt ∧ cnt + b ≤ 4294967296 ∧ 0 ≤ total ∧ total < 2305843009213693951
theorem Bag.mono {a b : Nat} {cs : List D} (h : Bag a cs) (l : b ≤ a) : Bag b cs := by
  obtain ⟨f, s, n, t, u, h1, h2, h3, h4, h5, h6, h7⟩ := h
  exact ⟨f, s, n, t, u, h1, h2, h3, h4, h5, by omega, h7⟩
end Bg
end Lw

set_option maxHeartbeats 4000000
namespace Lw
open PySem Fu
local macro_rules | `(tactic| walk_at "e1") => `(tactic| first
  | with_reducible refine eo_seq ?_ | (with_reducible refine then_nx' ?_; refine ⟨?_, ?_, ?_⟩; rotate_left; · (try dsimp only [List.set, List.length_cons, List.length_nil, List.cons_append, List.nil_append, Nat.zero_add, Nat.reduceAdd]); exact rfl) | with_reducible refine then_rt ?_ | with_reducible refine eo_if ?_ | with_reducible refine eo_ret ?_ | with_reducible refine eo_set ?_ | with_reducible refine eo_asg ?_ | with_reducible refine eo_drop ?_ | with_reducible refine eo_nx ?_ | with_reducible refine eo_par ?_ | with_reducible refine eo_own ?_ | with_reducible refine eo_retN ?_ | with_reducible refine eo_for ?_ | with_reducible refine eo_retO ?_
  | with_reducible refine ev_c ?_ | (with_reducible refine ev_var ?_; refine ⟨_, rfl, ?_⟩) | with_reducible refine ev_bin ?_ | with_reducible refine ev_un ?_ | with_reducible refine ev_nil ?_ | with_reducible refine ev_cons ?_
  | with_reducible refine ev_tup ?_ | with_reducible refine ev_lst ?_ | with_reducible refine ev_call ?_ | with_reducible refine ev_callF ?_ | with_reducible refine ev_isi ?_ | with_reducible refine ev_isi2 ?_ | with_reducible refine ev_andV ?_ | with_reducible refine ev_orV ?_ | with_reducible refine ev_notV ?_
  | with_reducible refine ev_B ?_ | with_reducible refine ev_and ?_ | with_reducible refine ev_or ?_ | with_reducible refine ev_not ?_ | with_reducible refine ev_yes ?_ | with_reducible refine ev_if ?_ | with_reducible refine ev_no ?_ | with_reducible refine ev_so ?_ | with_reducible refine ev_sl ?_ | with_reducible refine ev_items ?_
  | (with_reducible refine ev_ixO ?_; refine ⟨_, _, rfl, rfl, ?_⟩) | (with_reducible refine ev_varO ?_; refine ⟨_, _, rfl, rfl, ?_⟩) | (with_reducible refine ev_lenO ?_; refine ⟨_, _, rfl, rfl, ?_⟩) | (with_reducible refine ev_scrSl ?_; refine ⟨_, rfl, ?_⟩) | (with_reducible refine ev_scrLen ?_; refine ⟨_, rfl, ?_⟩) | (with_reducible refine ev_callScr ?_; refine ⟨_, rfl, ?_⟩) | (with_reducible refine ev_OL ?_; refine ⟨_, _, rfl, rfl, ?_⟩) | with_reducible refine ev_OR ?_ | with_reducible refine ev_rep ?_ | with_reducible refine ev_listRng1 ?_ | with_reducible refine eo_setO ?_
  | with_reducible refine es_name ?_ | with_reducible refine es_tup2 ?_ | with_reducible refine es_tup3 ?_
  | with_reducible refine ed_addI ?_ | with_reducible refine ed_subI ?_ | with_reducible refine ed_cmp ?_ | with_reducible refine ed_eqI ?_ | with_reducible refine ed_neI ?_ | with_reducible refine ed_slT ?_ | with_reducible refine ed_slL ?_ | with_reducible refine ed_lenT ?_ | with_reducible refine ed_lenL ?_ | with_reducible refine ed_lenS ?_ | with_reducible refine ed_inS ?_ | with_reducible refine ed_itT ?_ | with_reducible refine ed_itL ?_ | with_reducible refine ed_tupL ?_ | with_reducible refine ed_tupT ?_ | with_reducible refine ed_listL ?_ | with_reducible refine ed_listT ?_ | with_reducible refine ed_neg ?_ | with_reducible refine ed_max ?_ | with_reducible refine ed_min ?_ | with_reducible refine ed_intB ?_
  | with_reducible refine ev_rng1 ?_ | with_reducible refine ev_rng2 ?_)
local macro_rules | `(tactic| walk_at "sd") => `(tactic| first | rfl | assumption | (simp only [decide_eq_true_eq, decide_eq_false_iff_not, Bool.not_eq_true', Bool.not_eq_false', Bool.and_eq_true, Bool.or_eq_true, List.length_map, List.length_cons, List.length_nil, List.length_append, List.length_range] at *; omega))
local macro_rules | `(tactic| walk_at "e2") => `(tactic| first
  | walk_at "e1" | with_reducible refine ⟨_, rfl, ?_⟩ | with_reducible refine ⟨_, _, rfl, ?_⟩
  | with_reducible refine And.intro (Eq.refl (List.length _)) ?_ | with_reducible refine And.intro (Nat.le_of_ble_eq_true (n := List.length _) rfl) ?_
  | with_reducible refine And.intro (Eq.refl (_ : Sx)) (?_ : Ed _ _)
  | ((with_reducible refine And.intro ?_ (And.intro ?_ (?_ : Ev _ _))); (· rfl); (· rfl))
  | ((with_reducible refine ed_ixT ?_ ?_ ?_); (· decide); (· rfl)) | ((with_reducible refine ed_ixL ?_ ?_ ?_); (· decide); (· rfl)) | ((with_reducible refine ed_at ?_ ?_ ?_); (· decide); (· rfl))
  | ((with_reducible refine ed_modI ?_ ?_); (· first | decide | omega))
  | with_reducible exact gives_nx | ((with_reducible refine gives_rt ?_); (· rfl)) | ((with_reducible refine And.intro ?_ ?_); (· exact rfl); (· with_reducible exact Eq.refl (_ : Sx))))
local macro_rules | `(tactic| walk_at "e") => `(tactic| repeat walk_at "e2")
/-- begin a def's spec -/
local macro_rules | `(tactic| walk_at "i") => `(tactic| simp only [initS, List.map_cons, List.map_nil, List.length_cons, List.length_nil, Nat.reduceAdd, Nat.reduceSub, List.replicate, List.cons_append, List.nil_append])
/-- a known truth decides -/
local macro_rules | `(tactic| walk_at "t") => `(tactic| first | ((with_reducible refine split_t ?_ ?_); (· walk_at "sd")) | ((with_reducible refine split_t' ?_ ?_); (· walk_at "sd")))
local macro_rules | `(tactic| walk_at "f") => `(tactic| first | ((with_reducible refine split_f ?_ ?_); (· walk_at "sd")) | ((with_reducible refine split_f' ?_ ?_); (· walk_at "sd")))
/-- all that is seen in a look -/
local macro_rules | `(tactic| walk_at "v") => `(tactic| (rw [sealAll_mk (by (simp only [List.set_cons_zero, List.set_cons_succ, List.map_cons, List.map_nil, sealS_none, sealS_dat, sealS_scr, sealS_own, List.getElem?_cons_zero, List.getElem?_cons_succ, sealC_lst]; rfl)) (by (simp only [List.set_cons_zero, List.set_cons_succ, List.map_cons, List.map_nil]; rfl))]))
theorem eo_augL {S : Sx} {i : Nat} {ge : M D} {Z : Out → Prop} (h : ∃ j cs0, S.sl[i]? = some (some (.own j)) ∧ S.os[j]? = some (some (.lst cs0)) ∧ Ev (ge S) fun d S1 => ∃ xs cs, d = .list xs ∧ S1.os[j]? = some (some (.lst cs)) ∧ cs.length + xs.length ≤ 16777216 ∧ Z (.nx ⟨S1.sl.set i (some (.own j)), S1.os.set j (some (.lst (cs ++ xs)))⟩)) : Eo (qAugL i ge S) Z := by
  obtain ⟨j, cs0, hi, hc, d, S1, e1, xs, cs, rfl, e2, l, q⟩ := h
  refine ⟨_, ?_, q⟩
  simp only [qAugL, ownOf, Fu.cellOf, hi, hc, e1, e2, Option.bind_some, line_eq, if_pos l]
namespace Bg
end Bg
end Lw

set_option maxHeartbeats 4000000
namespace Lw
open PySem Fu
local macro_rules | `(tactic| walk_at "e1") => `(tactic| first
  | with_reducible refine eo_seq ?_ | (with_reducible refine then_nx' ?_; refine ⟨?_, ?_, ?_⟩; rotate_left; · (try dsimp only [List.set, List.length_cons, List.length_nil, List.cons_append, List.nil_append, Nat.zero_add, Nat.reduceAdd]); exact rfl) | with_reducible refine then_rt ?_ | with_reducible refine eo_if ?_ | with_reducible refine eo_ret ?_ | with_reducible refine eo_set ?_ | with_reducible refine eo_asg ?_ | with_reducible refine eo_drop ?_ | with_reducible refine eo_nx ?_ | with_reducible refine eo_par ?_ | with_reducible refine eo_own ?_ | with_reducible refine eo_retN ?_ | with_reducible refine eo_for ?_ | with_reducible refine eo_retO ?_
  | with_reducible refine ev_c ?_ | (with_reducible refine ev_var ?_; refine ⟨_, rfl, ?_⟩) | with_reducible refine ev_bin ?_ | with_reducible refine ev_un ?_ | with_reducible refine ev_nil ?_ | with_reducible refine ev_cons ?_
  | with_reducible refine ev_tup ?_ | with_reducible refine ev_lst ?_ | with_reducible refine ev_call ?_ | with_reducible refine ev_callF ?_ | with_reducible refine ev_isi ?_ | with_reducible refine ev_isi2 ?_ | with_reducible refine ev_andV ?_ | with_reducible refine ev_orV ?_ | with_reducible refine ev_notV ?_
  | with_reducible refine ev_B ?_ | with_reducible refine ev_and ?_ | with_reducible refine ev_or ?_ | with_reducible refine ev_not ?_ | with_reducible refine ev_yes ?_ | with_reducible refine ev_if ?_ | with_reducible refine ev_no ?_ | with_reducible refine ev_so ?_ | with_reducible refine ev_sl ?_ | with_reducible refine ev_items ?_
  | (with_reducible refine ev_ixO ?_; refine ⟨_, _, rfl, rfl, ?_⟩) | (with_reducible refine ev_varO ?_; refine ⟨_, _, rfl, rfl, ?_⟩) | (with_reducible refine ev_lenO ?_; refine ⟨_, _, rfl, rfl, ?_⟩) | (with_reducible refine ev_scrSl ?_; refine ⟨_, rfl, ?_⟩) | (with_reducible refine ev_scrLen ?_; refine ⟨_, rfl, ?_⟩) | (with_reducible refine ev_callScr ?_; refine ⟨_, rfl, ?_⟩) | (with_reducible refine ev_OL ?_; refine ⟨_, _, rfl, rfl, ?_⟩) | with_reducible refine ev_OR ?_ | with_reducible refine ev_rep ?_ | with_reducible refine ev_listRng1 ?_ | with_reducible refine eo_setO ?_
  | with_reducible refine es_name ?_ | with_reducible refine es_tup2 ?_ | with_reducible refine es_tup3 ?_
  | with_reducible refine ed_addI ?_ | with_reducible refine ed_subI ?_ | with_reducible refine ed_cmp ?_ | with_reducible refine ed_eqI ?_ | with_reducible refine ed_neI ?_ | with_reducible refine ed_slT ?_ | with_reducible refine ed_slL ?_ | with_reducible refine ed_lenT ?_ | with_reducible refine ed_lenL ?_ | with_reducible refine ed_lenS ?_ | with_reducible refine ed_inS ?_ | with_reducible refine ed_itT ?_ | with_reducible refine ed_itL ?_ | with_reducible refine ed_tupL ?_ | with_reducible refine ed_tupT ?_ | with_reducible refine ed_listL ?_ | with_reducible refine ed_listT ?_ | with_reducible refine ed_neg ?_ | with_reducible refine ed_max ?_ | with_reducible refine ed_min ?_ | with_reducible refine ed_intB ?_
  | with_reducible refine ev_rng1 ?_ | with_reducible refine ev_rng2 ?_)
local macro_rules | `(tactic| walk_at "sd") => `(tactic| first | rfl | assumption | (simp only [decide_eq_true_eq, decide_eq_false_iff_not, Bool.not_eq_true', Bool.not_eq_false', Bool.and_eq_true, Bool.or_eq_true, List.length_map, List.length_cons, List.length_nil, List.length_append, List.length_range] at *; omega))
local macro_rules | `(tactic| walk_at "e2") => `(tactic| first
  | walk_at "e1" | with_reducible refine ⟨_, rfl, ?_⟩ | with_reducible refine ⟨_, _, rfl, ?_⟩
  | with_reducible refine And.intro (Eq.refl (List.length _)) ?_ | with_reducible refine And.intro (Nat.le_of_ble_eq_true (n := List.length _) rfl) ?_
  | with_reducible refine And.intro (Eq.refl (_ : Sx)) (?_ : Ed _ _)
  | ((with_reducible refine And.intro ?_ (And.intro ?_ (?_ : Ev _ _))); (· rfl); (· rfl))
  | ((with_reducible refine ed_ixT ?_ ?_ ?_); (· decide); (· rfl)) | ((with_reducible refine ed_ixL ?_ ?_ ?_); (· decide); (· rfl)) | ((with_reducible refine ed_at ?_ ?_ ?_); (· decide); (· rfl))
  | ((with_reducible refine ed_modI ?_ ?_); (· first | decide | omega))
  | with_reducible exact gives_nx | ((with_reducible refine gives_rt ?_); (· rfl)) | ((with_reducible refine And.intro ?_ ?_); (· exact rfl); (· with_reducible exact Eq.refl (_ : Sx))))
local macro_rules | `(tactic| walk_at "e") => `(tactic| repeat walk_at "e2")
/-- begin a def's spec -/
local macro_rules | `(tactic| walk_at "i") => `(tactic| simp only [initS, List.map_cons, List.map_nil, List.length_cons, List.length_nil, Nat.reduceAdd, Nat.reduceSub, List.replicate, List.cons_append, List.nil_append])
/-- a known truth decides -/
local macro_rules | `(tactic| walk_at "t") => `(tactic| first | ((with_reducible refine split_t ?_ ?_); (· walk_at "sd")) | ((with_reducible refine split_t' ?_ ?_); (· walk_at "sd")))
local macro_rules | `(tactic| walk_at "f") => `(tactic| first | ((with_reducible refine split_f ?_ ?_); (· walk_at "sd")) | ((with_reducible refine split_f' ?_ ?_); (· walk_at "sd")))
/-- all that is seen in a look -/
local macro_rules | `(tactic| walk_at "v") => `(tactic| (rw [sealAll_mk (by (simp only [List.set_cons_zero, List.set_cons_succ, List.map_cons, List.map_nil, sealS_none, sealS_dat, sealS_scr, sealS_own, List.getElem?_cons_zero, List.getElem?_cons_succ, sealC_lst]; rfl)) (by (simp only [List.set_cons_zero, List.set_cons_succ, List.map_cons, List.map_nil]; rfl))]))
namespace Bg
open Sp
/-! ### a walk's lines, plainly -/
def lnAt (sp : List Int) (sg : List Nat) (i : Nat) (s : Int) : Ln := if s = 0 then (sp.getD i 0, sp.getD (i + 1) 0, sg.getD i 0) else (sp.getD (i + 1) 0, sp.getD i 0, sg.getD i 0)
structure Wk (n k : Nat) (sp : List Int) (od sg : List Nat) (qs : List (Option Ln)) (es : List (Int × Int)) : Prop where
  qlen : qs.length = n
  elen : es.length = k
  glen : sg.length = k
  at' : ∀ i, i < k → ∃ m s, od[i]? = some m ∧ (s = 0 ∨ s = 1) ∧ es[i]? = some ((m : Int), s) ∧ qs[m]? = some (some (lnAt sp sg i s))
theorem getD_add {α : Type} {xs : List α} {x d : α} {i : Nat} (h : i < xs.length) : (xs ++ [x]).getD i d = xs.getD i d := by
  rw [List.getD_eq_getElem?_getD, List.getD_eq_getElem?_getD, List.getElem?_append_left h]
theorem Wk.zero (n : Nat) (sp : List Int) (od : List Nat) : Wk n 0 sp od [] (List.replicate n none) [] := ⟨by simp, rfl, rfl, fun i h => absurd h (Nat.not_lt_zero _)⟩
theorem Wk.step {n k m : Nat} {sp : List Int} {od sg : List Nat} {qs : List (Option Ln)} {es : List (Int × Int)} {s : Int} {c : Nat} (h : Wk n k sp od sg qs es) (hnd : od.Nodup) (hm : od[k]? = some m) (hmn : m < n) (hs : s = 0 ∨ s = 1) :
    Wk n (k + 1) sp od (sg ++ [c]) (qs.set m (some (lnAt sp (sg ++ [c]) k s))) (es ++ [((m : Int), s)]) := by
  have hlt : m < qs.length := by rw [h.qlen]; exact hmn
  refine ⟨by simp [h.qlen], by simp [h.elen], by simp [h.glen], fun i hi => ?_⟩
  rcases Nat.lt_succ_iff_lt_or_eq.mp hi with hi | rfl
  · obtain ⟨m2, s2, h1, h2, h3, h4⟩ := h.at' i hi
    refine ⟨m2, s2, h1, h2, by rw [List.getElem?_append_left (by rw [h.elen]; exact hi)]; exact h3, ?_⟩
    have hne : m ≠ m2 := by
      rintro rfl
      obtain ⟨l1, e1⟩ := List.getElem?_eq_some_iff.mp hm
      obtain ⟨l2, e2⟩ := List.getElem?_eq_some_iff.mp h1
      have := (List.getElem_inj hnd).mp (e1.trans e2.symm)
      omega
    rw [List.getElem?_set_ne hne, h4]
    unfold lnAt
    rw [getD_add (by rw [h.glen]; exact hi)]
  · exact ⟨m, s, hm, hs, by rw [List.getElem?_append_right (by rw [h.elen]; exact Nat.le_refl _), h.elen, Nat.sub_self]; rfl, by rw [List.getElem?_set_self hlt]⟩
/-- a walk's web and ride -/
structure Walked (n : Nat) (sp : List Int) (od sg : List Nat) (ls : List Ln) (es : List (Int × Int)) : Prop where
  llen : ls.length = n
  elen : es.length = n
  glen : sg.length = n
  nd : od.Nodup
  at' : ∀ i, i < n → ∃ m s, od[i]? = some m ∧ (s = 0 ∨ s = 1) ∧ es[i]? = some ((m : Int), s) ∧ ls[m]? = some (lnAt sp sg i s)
theorem Wk.done {n : Nat} {sp : List Int} {od sg : List Nat} {qs : List (Option Ln)} {es : List (Int × Int)} (h : Wk n n sp od sg qs es) (hp : od.Perm (List.range n)) : ∃ ls : List Ln, qs = ls.map some ∧ Walked n sp od sg ls es := by
  have hl : od.length = n := by simpa using hp.length_eq
  obtain ⟨ls, rfl⟩ := all_some (qs := qs) fun q hq => by
    obtain ⟨m, hm⟩ := List.mem_iff_getElem?.mp hq
    have hlt := (List.getElem?_eq_some_iff.mp hm).1
    rw [h.qlen] at hlt
    have : m ∈ od := hp.mem_iff.mpr (List.mem_range.mpr hlt)
    obtain ⟨i, hi⟩ := List.mem_iff_getElem?.mp this
    have hin := (List.getElem?_eq_some_iff.mp hi).1
    obtain ⟨m2, s, e1, _, _, e4⟩ := h.at' i (by omega)
    rw [hi] at e1; cases e1
    rw [hm] at e4; cases e4
    exact ⟨_, rfl⟩
  refine ⟨ls, rfl, by have := h.qlen; simpa using this, h.elen, h.glen, hp.nodup_iff.mpr List.nodup_range, fun i hi => ?_⟩
  obtain ⟨m, s, e1, e2, e3, e4⟩ := h.at' i hi
  rw [List.getElem?_map] at e4
  obtain ⟨l, e5, e6⟩ := Option.map_eq_some_iff.mp e4
  cases e6
  exact ⟨m, s, e1, e2, e3, e5⟩
theorem Walked.at {n : Nat} {sp : List Int} {od sg : List Nat} {ls : List Ln} {es : List (Int × Int)} (h : Walked n sp od sg ls es) {i : Nat} (hi : i < n) :
    ∃ e, es[i]? = some e ∧ EndOk ls.length e ∧ plc ls e = sp.getD i 0 ∧ plc ls (far e) = sp.getD (i + 1) 0 ∧ cmpy ls e = sg.getD i 0 := by
  obtain ⟨m, s, _, hs, h1, h2⟩ := h.at' i hi
  have hm := (List.getElem?_eq_some_iff.mp h2).1
  refine ⟨_, h1, ⟨by simp, by simpa using hm, by simp only; omega, by simp only; omega⟩, ?_, ?_, ?_⟩
  · unfold plc
    simp only [Int.toNat_natCast, h2]
    rcases hs with rfl | rfl <;> simp [sideOf, lnAt]
  · unfold plc far
    simp only [Int.toNat_natCast, h2]
    rcases hs with rfl | rfl <;> simp [sideOf, lnAt]
  · unfold cmpy
    simp only [Int.toNat_natCast, h2]
    rcases hs with rfl | rfl <;> simp [lnAt]
end Bg
end Lw

set_option maxHeartbeats 4000000
namespace Lw
open PySem Fu
local macro_rules | `(tactic| walk_at "e1") => `(tactic| first
  | with_reducible refine eo_seq ?_ | (with_reducible refine then_nx' ?_; refine ⟨?_, ?_, ?_⟩; rotate_left; · (try dsimp only [List.set, List.length_cons, List.length_nil, List.cons_append, List.nil_append, Nat.zero_add, Nat.reduceAdd]); exact rfl) | with_reducible refine then_rt ?_ | with_reducible refine eo_if ?_ | with_reducible refine eo_ret ?_ | with_reducible refine eo_set ?_ | with_reducible refine eo_asg ?_ | with_reducible refine eo_drop ?_ | with_reducible refine eo_nx ?_ | with_reducible refine eo_par ?_ | with_reducible refine eo_own ?_ | with_reducible refine eo_retN ?_ | with_reducible refine eo_for ?_ | with_reducible refine eo_retO ?_
  | with_reducible refine ev_c ?_ | (with_reducible refine ev_var ?_; refine ⟨_, rfl, ?_⟩) | with_reducible refine ev_bin ?_ | with_reducible refine ev_un ?_ | with_reducible refine ev_nil ?_ | with_reducible refine ev_cons ?_
  | with_reducible refine ev_tup ?_ | with_reducible refine ev_lst ?_ | with_reducible refine ev_call ?_ | with_reducible refine ev_callF ?_ | with_reducible refine ev_isi ?_ | with_reducible refine ev_isi2 ?_ | with_reducible refine ev_andV ?_ | with_reducible refine ev_orV ?_ | with_reducible refine ev_notV ?_
  | with_reducible refine ev_B ?_ | with_reducible refine ev_and ?_ | with_reducible refine ev_or ?_ | with_reducible refine ev_not ?_ | with_reducible refine ev_yes ?_ | with_reducible refine ev_if ?_ | with_reducible refine ev_no ?_ | with_reducible refine ev_so ?_ | with_reducible refine ev_sl ?_ | with_reducible refine ev_items ?_
  | (with_reducible refine ev_ixO ?_; refine ⟨_, _, rfl, rfl, ?_⟩) | (with_reducible refine ev_varO ?_; refine ⟨_, _, rfl, rfl, ?_⟩) | (with_reducible refine ev_lenO ?_; refine ⟨_, _, rfl, rfl, ?_⟩) | (with_reducible refine ev_scrSl ?_; refine ⟨_, rfl, ?_⟩) | (with_reducible refine ev_scrLen ?_; refine ⟨_, rfl, ?_⟩) | (with_reducible refine ev_callScr ?_; refine ⟨_, rfl, ?_⟩) | (with_reducible refine ev_OL ?_; refine ⟨_, _, rfl, rfl, ?_⟩) | with_reducible refine ev_OR ?_ | with_reducible refine ev_rep ?_ | with_reducible refine ev_listRng1 ?_ | with_reducible refine eo_setO ?_
  | with_reducible refine es_name ?_ | with_reducible refine es_tup2 ?_ | with_reducible refine es_tup3 ?_
  | with_reducible refine ed_addI ?_ | with_reducible refine ed_subI ?_ | with_reducible refine ed_cmp ?_ | with_reducible refine ed_eqI ?_ | with_reducible refine ed_neI ?_ | with_reducible refine ed_slT ?_ | with_reducible refine ed_slL ?_ | with_reducible refine ed_lenT ?_ | with_reducible refine ed_lenL ?_ | with_reducible refine ed_lenS ?_ | with_reducible refine ed_inS ?_ | with_reducible refine ed_itT ?_ | with_reducible refine ed_itL ?_ | with_reducible refine ed_tupL ?_ | with_reducible refine ed_tupT ?_ | with_reducible refine ed_listL ?_ | with_reducible refine ed_listT ?_ | with_reducible refine ed_neg ?_ | with_reducible refine ed_max ?_ | with_reducible refine ed_min ?_ | with_reducible refine ed_intB ?_
  | with_reducible refine ev_rng1 ?_ | with_reducible refine ev_rng2 ?_)
local macro_rules | `(tactic| walk_at "sd") => `(tactic| first | rfl | assumption | (simp only [decide_eq_true_eq, decide_eq_false_iff_not, Bool.not_eq_true', Bool.not_eq_false', Bool.and_eq_true, Bool.or_eq_true, List.length_map, List.length_cons, List.length_nil, List.length_append, List.length_range] at *; omega))
local macro_rules | `(tactic| walk_at "e2") => `(tactic| first
  | walk_at "e1" | with_reducible refine ⟨_, rfl, ?_⟩ | with_reducible refine ⟨_, _, rfl, ?_⟩
  | with_reducible refine And.intro (Eq.refl (List.length _)) ?_ | with_reducible refine And.intro (Nat.le_of_ble_eq_true (n := List.length _) rfl) ?_
  | with_reducible refine And.intro (Eq.refl (_ : Sx)) (?_ : Ed _ _)
  | ((with_reducible refine And.intro ?_ (And.intro ?_ (?_ : Ev _ _))); (· rfl); (· rfl))
  | ((with_reducible refine ed_ixT ?_ ?_ ?_); (· decide); (· rfl)) | ((with_reducible refine ed_ixL ?_ ?_ ?_); (· decide); (· rfl)) | ((with_reducible refine ed_at ?_ ?_ ?_); (· decide); (· rfl))
  | ((with_reducible refine ed_modI ?_ ?_); (· first | decide | omega))
  | with_reducible exact gives_nx | ((with_reducible refine gives_rt ?_); (· rfl)) | ((with_reducible refine And.intro ?_ ?_); (· exact rfl); (· with_reducible exact Eq.refl (_ : Sx))))
local macro_rules | `(tactic| walk_at "e") => `(tactic| repeat walk_at "e2")
/-- begin a def's spec -/
local macro_rules | `(tactic| walk_at "i") => `(tactic| simp only [initS, List.map_cons, List.map_nil, List.length_cons, List.length_nil, Nat.reduceAdd, Nat.reduceSub, List.replicate, List.cons_append, List.nil_append])
/-- a known truth decides -/
local macro_rules | `(tactic| walk_at "t") => `(tactic| first | ((with_reducible refine split_t ?_ ?_); (· walk_at "sd")) | ((with_reducible refine split_t' ?_ ?_); (· walk_at "sd")))
local macro_rules | `(tactic| walk_at "f") => `(tactic| first | ((with_reducible refine split_f ?_ ?_); (· walk_at "sd")) | ((with_reducible refine split_f' ?_ ?_); (· walk_at "sd")))
/-- all that is seen in a look -/
local macro_rules | `(tactic| walk_at "v") => `(tactic| (rw [sealAll_mk (by (simp only [List.set_cons_zero, List.set_cons_succ, List.map_cons, List.map_nil, sealS_none, sealS_dat, sealS_scr, sealS_own, List.getElem?_cons_zero, List.getElem?_cons_succ, sealC_lst]; rfl)) (by (simp only [List.set_cons_zero, List.set_cons_succ, List.map_cons, List.map_nil]; rfl))]))
namespace Bg
open Sp
end Bg
end Lw

set_option maxHeartbeats 4000000
namespace Lw
open PySem Fu
local macro_rules | `(tactic| walk_at "e1") => `(tactic| first
  | with_reducible refine eo_seq ?_ | (with_reducible refine then_nx' ?_; refine ⟨?_, ?_, ?_⟩; rotate_left; · (try dsimp only [List.set, List.length_cons, List.length_nil, List.cons_append, List.nil_append, Nat.zero_add, Nat.reduceAdd]); exact rfl) | with_reducible refine then_rt ?_ | with_reducible refine eo_if ?_ | with_reducible refine eo_ret ?_ | with_reducible refine eo_set ?_ | with_reducible refine eo_asg ?_ | with_reducible refine eo_drop ?_ | with_reducible refine eo_nx ?_ | with_reducible refine eo_par ?_ | with_reducible refine eo_own ?_ | with_reducible refine eo_retN ?_ | with_reducible refine eo_for ?_ | with_reducible refine eo_retO ?_
  | with_reducible refine ev_c ?_ | (with_reducible refine ev_var ?_; refine ⟨_, rfl, ?_⟩) | with_reducible refine ev_bin ?_ | with_reducible refine ev_un ?_ | with_reducible refine ev_nil ?_ | with_reducible refine ev_cons ?_
  | with_reducible refine ev_tup ?_ | with_reducible refine ev_lst ?_ | with_reducible refine ev_call ?_ | with_reducible refine ev_callF ?_ | with_reducible refine ev_isi ?_ | with_reducible refine ev_isi2 ?_ | with_reducible refine ev_andV ?_ | with_reducible refine ev_orV ?_ | with_reducible refine ev_notV ?_
  | with_reducible refine ev_B ?_ | with_reducible refine ev_and ?_ | with_reducible refine ev_or ?_ | with_reducible refine ev_not ?_ | with_reducible refine ev_yes ?_ | with_reducible refine ev_if ?_ | with_reducible refine ev_no ?_ | with_reducible refine ev_so ?_ | with_reducible refine ev_sl ?_ | with_reducible refine ev_items ?_
  | (with_reducible refine ev_ixO ?_; refine ⟨_, _, rfl, rfl, ?_⟩) | (with_reducible refine ev_varO ?_; refine ⟨_, _, rfl, rfl, ?_⟩) | (with_reducible refine ev_lenO ?_; refine ⟨_, _, rfl, rfl, ?_⟩) | (with_reducible refine ev_scrSl ?_; refine ⟨_, rfl, ?_⟩) | (with_reducible refine ev_scrLen ?_; refine ⟨_, rfl, ?_⟩) | (with_reducible refine ev_callScr ?_; refine ⟨_, rfl, ?_⟩) | (with_reducible refine ev_OL ?_; refine ⟨_, _, rfl, rfl, ?_⟩) | with_reducible refine ev_OR ?_ | with_reducible refine ev_rep ?_ | with_reducible refine ev_listRng1 ?_ | with_reducible refine eo_setO ?_
  | with_reducible refine es_name ?_ | with_reducible refine es_tup2 ?_ | with_reducible refine es_tup3 ?_
  | with_reducible refine ed_addI ?_ | with_reducible refine ed_subI ?_ | with_reducible refine ed_cmp ?_ | with_reducible refine ed_eqI ?_ | with_reducible refine ed_neI ?_ | with_reducible refine ed_slT ?_ | with_reducible refine ed_slL ?_ | with_reducible refine ed_lenT ?_ | with_reducible refine ed_lenL ?_ | with_reducible refine ed_lenS ?_ | with_reducible refine ed_inS ?_ | with_reducible refine ed_itT ?_ | with_reducible refine ed_itL ?_ | with_reducible refine ed_tupL ?_ | with_reducible refine ed_tupT ?_ | with_reducible refine ed_listL ?_ | with_reducible refine ed_listT ?_ | with_reducible refine ed_neg ?_ | with_reducible refine ed_max ?_ | with_reducible refine ed_min ?_ | with_reducible refine ed_intB ?_
  | with_reducible refine ev_rng1 ?_ | with_reducible refine ev_rng2 ?_)
local macro_rules | `(tactic| walk_at "sd") => `(tactic| first | rfl | assumption | (simp only [decide_eq_true_eq, decide_eq_false_iff_not, Bool.not_eq_true', Bool.not_eq_false', Bool.and_eq_true, Bool.or_eq_true, List.length_map, List.length_cons, List.length_nil, List.length_append, List.length_range] at *; omega))
local macro_rules | `(tactic| walk_at "e2") => `(tactic| first
  | walk_at "e1" | with_reducible refine ⟨_, rfl, ?_⟩ | with_reducible refine ⟨_, _, rfl, ?_⟩
  | with_reducible refine And.intro (Eq.refl (List.length _)) ?_ | with_reducible refine And.intro (Nat.le_of_ble_eq_true (n := List.length _) rfl) ?_
  | with_reducible refine And.intro (Eq.refl (_ : Sx)) (?_ : Ed _ _)
  | ((with_reducible refine And.intro ?_ (And.intro ?_ (?_ : Ev _ _))); (· rfl); (· rfl))
  | ((with_reducible refine ed_ixT ?_ ?_ ?_); (· decide); (· rfl)) | ((with_reducible refine ed_ixL ?_ ?_ ?_); (· decide); (· rfl)) | ((with_reducible refine ed_at ?_ ?_ ?_); (· decide); (· rfl))
  | ((with_reducible refine ed_modI ?_ ?_); (· first | decide | omega))
  | with_reducible exact gives_nx | ((with_reducible refine gives_rt ?_); (· rfl)) | ((with_reducible refine And.intro ?_ ?_); (· exact rfl); (· with_reducible exact Eq.refl (_ : Sx))))
local macro_rules | `(tactic| walk_at "e") => `(tactic| repeat walk_at "e2")
/-- begin a def's spec -/
local macro_rules | `(tactic| walk_at "i") => `(tactic| simp only [initS, List.map_cons, List.map_nil, List.length_cons, List.length_nil, Nat.reduceAdd, Nat.reduceSub, List.replicate, List.cons_append, List.nil_append])
/-- a known truth decides -/
local macro_rules | `(tactic| walk_at "t") => `(tactic| first | ((with_reducible refine split_t ?_ ?_); (· walk_at "sd")) | ((with_reducible refine split_t' ?_ ?_); (· walk_at "sd")))
local macro_rules | `(tactic| walk_at "f") => `(tactic| first | ((with_reducible refine split_f ?_ ?_); (· walk_at "sd")) | ((with_reducible refine split_f' ?_ ?_); (· walk_at "sd")))
/-- all that is seen in a look -/
local macro_rules | `(tactic| walk_at "v") => `(tactic| (rw [sealAll_mk (by (simp only [List.set_cons_zero, List.set_cons_succ, List.map_cons, List.map_nil, sealS_none, sealS_dat, sealS_scr, sealS_own, List.getElem?_cons_zero, List.getElem?_cons_succ, sealC_lst]; rfl)) (by (simp only [List.set_cons_zero, List.set_cons_succ, List.map_cons, List.map_nil]; rfl))]))
namespace Bg
open Sp
end Bg
end Lw

set_option maxHeartbeats 4000000
namespace Lw
open PySem Fu
local macro_rules | `(tactic| walk_at "e1") => `(tactic| first
  | with_reducible refine eo_seq ?_ | (with_reducible refine then_nx' ?_; refine ⟨?_, ?_, ?_⟩; rotate_left; · (try dsimp only [List.set, List.length_cons, List.length_nil, List.cons_append, List.nil_append, Nat.zero_add, Nat.reduceAdd]); exact rfl) | with_reducible refine then_rt ?_ | with_reducible refine eo_if ?_ | with_reducible refine eo_ret ?_ | with_reducible refine eo_set ?_ | with_reducible refine eo_asg ?_ | with_reducible refine eo_drop ?_ | with_reducible refine eo_nx ?_ | with_reducible refine eo_par ?_ | with_reducible refine eo_own ?_ | with_reducible refine eo_retN ?_ | with_reducible refine eo_for ?_ | with_reducible refine eo_retO ?_
  | with_reducible refine ev_c ?_ | (with_reducible refine ev_var ?_; refine ⟨_, rfl, ?_⟩) | with_reducible refine ev_bin ?_ | with_reducible refine ev_un ?_ | with_reducible refine ev_nil ?_ | with_reducible refine ev_cons ?_
  | with_reducible refine ev_tup ?_ | with_reducible refine ev_lst ?_ | with_reducible refine ev_call ?_ | with_reducible refine ev_callF ?_ | with_reducible refine ev_isi ?_ | with_reducible refine ev_isi2 ?_ | with_reducible refine ev_andV ?_ | with_reducible refine ev_orV ?_ | with_reducible refine ev_notV ?_
  | with_reducible refine ev_B ?_ | with_reducible refine ev_and ?_ | with_reducible refine ev_or ?_ | with_reducible refine ev_not ?_ | with_reducible refine ev_yes ?_ | with_reducible refine ev_if ?_ | with_reducible refine ev_no ?_ | with_reducible refine ev_so ?_ | with_reducible refine ev_sl ?_ | with_reducible refine ev_items ?_
  | (with_reducible refine ev_ixO ?_; refine ⟨_, _, rfl, rfl, ?_⟩) | (with_reducible refine ev_varO ?_; refine ⟨_, _, rfl, rfl, ?_⟩) | (with_reducible refine ev_lenO ?_; refine ⟨_, _, rfl, rfl, ?_⟩) | (with_reducible refine ev_scrSl ?_; refine ⟨_, rfl, ?_⟩) | (with_reducible refine ev_scrLen ?_; refine ⟨_, rfl, ?_⟩) | (with_reducible refine ev_callScr ?_; refine ⟨_, rfl, ?_⟩) | (with_reducible refine ev_OL ?_; refine ⟨_, _, rfl, rfl, ?_⟩) | with_reducible refine ev_OR ?_ | with_reducible refine ev_rep ?_ | with_reducible refine ev_listRng1 ?_ | with_reducible refine eo_setO ?_
  | with_reducible refine es_name ?_ | with_reducible refine es_tup2 ?_ | with_reducible refine es_tup3 ?_
  | with_reducible refine ed_addI ?_ | with_reducible refine ed_subI ?_ | with_reducible refine ed_cmp ?_ | with_reducible refine ed_eqI ?_ | with_reducible refine ed_neI ?_ | with_reducible refine ed_slT ?_ | with_reducible refine ed_slL ?_ | with_reducible refine ed_lenT ?_ | with_reducible refine ed_lenL ?_ | with_reducible refine ed_lenS ?_ | with_reducible refine ed_inS ?_ | with_reducible refine ed_itT ?_ | with_reducible refine ed_itL ?_ | with_reducible refine ed_tupL ?_ | with_reducible refine ed_tupT ?_ | with_reducible refine ed_listL ?_ | with_reducible refine ed_listT ?_ | with_reducible refine ed_neg ?_ | with_reducible refine ed_max ?_ | with_reducible refine ed_min ?_ | with_reducible refine ed_intB ?_
  | with_reducible refine ev_rng1 ?_ | with_reducible refine ev_rng2 ?_)
local macro_rules | `(tactic| walk_at "sd") => `(tactic| first | rfl | assumption | (simp only [decide_eq_true_eq, decide_eq_false_iff_not, Bool.not_eq_true', Bool.not_eq_false', Bool.and_eq_true, Bool.or_eq_true, List.length_map, List.length_cons, List.length_nil, List.length_append, List.length_range] at *; omega))
local macro_rules | `(tactic| walk_at "e2") => `(tactic| first
  | walk_at "e1" | with_reducible refine ⟨_, rfl, ?_⟩ | with_reducible refine ⟨_, _, rfl, ?_⟩
  | with_reducible refine And.intro (Eq.refl (List.length _)) ?_ | with_reducible refine And.intro (Nat.le_of_ble_eq_true (n := List.length _) rfl) ?_
  | with_reducible refine And.intro (Eq.refl (_ : Sx)) (?_ : Ed _ _)
  | ((with_reducible refine And.intro ?_ (And.intro ?_ (?_ : Ev _ _))); (· rfl); (· rfl))
  | ((with_reducible refine ed_ixT ?_ ?_ ?_); (· decide); (· rfl)) | ((with_reducible refine ed_ixL ?_ ?_ ?_); (· decide); (· rfl)) | ((with_reducible refine ed_at ?_ ?_ ?_); (· decide); (· rfl))
  | ((with_reducible refine ed_modI ?_ ?_); (· first | decide | omega))
  | with_reducible exact gives_nx | ((with_reducible refine gives_rt ?_); (· rfl)) | ((with_reducible refine And.intro ?_ ?_); (· exact rfl); (· with_reducible exact Eq.refl (_ : Sx))))
local macro_rules | `(tactic| walk_at "e") => `(tactic| repeat walk_at "e2")
/-- begin a def's spec -/
local macro_rules | `(tactic| walk_at "i") => `(tactic| simp only [initS, List.map_cons, List.map_nil, List.length_cons, List.length_nil, Nat.reduceAdd, Nat.reduceSub, List.replicate, List.cons_append, List.nil_append])
/-- a known truth decides -/
local macro_rules | `(tactic| walk_at "t") => `(tactic| first | ((with_reducible refine split_t ?_ ?_); (· walk_at "sd")) | ((with_reducible refine split_t' ?_ ?_); (· walk_at "sd")))
local macro_rules | `(tactic| walk_at "f") => `(tactic| first | ((with_reducible refine split_f ?_ ?_); (· walk_at "sd")) | ((with_reducible refine split_f' ?_ ?_); (· walk_at "sd")))
/-- all that is seen in a look -/
local macro_rules | `(tactic| walk_at "v") => `(tactic| (rw [sealAll_mk (by (simp only [List.set_cons_zero, List.set_cons_succ, List.map_cons, List.map_nil, sealS_none, sealS_dat, sealS_scr, sealS_own, List.getElem?_cons_zero, List.getElem?_cons_succ, sealC_lst]; rfl)) (by (simp only [List.set_cons_zero, List.set_cons_succ, List.map_cons, List.map_nil]; rfl))]))
/-! ### rounds handed in, places, the other way about: of any data -/
/-! ### turnings -/
def tD (t : List Nat) : D := .tuple (t.map fun i : Nat => PyData.int (i : Int))
/-! ### which turnings may be -/
def mates (ps : List Int) (i : Nat) : List Nat := ((List.range (ps.length - (i + 1))).map fun k => i + 1 + k).filter fun j => decide (ps.getD j 0 = ps.getD i 0)
def pairs (ps : List Int) (n : Nat) : List (List Nat) := (List.range n).flatMap fun i => (mates ps i).map fun j => [i, j]
end Lw

set_option maxHeartbeats 4000000
namespace Lw
open PySem Fu
local macro_rules | `(tactic| walk_at "e1") => `(tactic| first
  | with_reducible refine eo_seq ?_ | (with_reducible refine then_nx' ?_; refine ⟨?_, ?_, ?_⟩; rotate_left; · (try dsimp only [List.set, List.length_cons, List.length_nil, List.cons_append, List.nil_append, Nat.zero_add, Nat.reduceAdd]); exact rfl) | with_reducible refine then_rt ?_ | with_reducible refine eo_if ?_ | with_reducible refine eo_ret ?_ | with_reducible refine eo_set ?_ | with_reducible refine eo_asg ?_ | with_reducible refine eo_drop ?_ | with_reducible refine eo_nx ?_ | with_reducible refine eo_par ?_ | with_reducible refine eo_own ?_ | with_reducible refine eo_retN ?_ | with_reducible refine eo_for ?_ | with_reducible refine eo_retO ?_
  | with_reducible refine ev_c ?_ | (with_reducible refine ev_var ?_; refine ⟨_, rfl, ?_⟩) | with_reducible refine ev_bin ?_ | with_reducible refine ev_un ?_ | with_reducible refine ev_nil ?_ | with_reducible refine ev_cons ?_
  | with_reducible refine ev_tup ?_ | with_reducible refine ev_lst ?_ | with_reducible refine ev_call ?_ | with_reducible refine ev_callF ?_ | with_reducible refine ev_isi ?_ | with_reducible refine ev_isi2 ?_ | with_reducible refine ev_andV ?_ | with_reducible refine ev_orV ?_ | with_reducible refine ev_notV ?_
  | with_reducible refine ev_B ?_ | with_reducible refine ev_and ?_ | with_reducible refine ev_or ?_ | with_reducible refine ev_not ?_ | with_reducible refine ev_yes ?_ | with_reducible refine ev_if ?_ | with_reducible refine ev_no ?_ | with_reducible refine ev_so ?_ | with_reducible refine ev_sl ?_ | with_reducible refine ev_items ?_
  | (with_reducible refine ev_ixO ?_; refine ⟨_, _, rfl, rfl, ?_⟩) | (with_reducible refine ev_varO ?_; refine ⟨_, _, rfl, rfl, ?_⟩) | (with_reducible refine ev_lenO ?_; refine ⟨_, _, rfl, rfl, ?_⟩) | (with_reducible refine ev_scrSl ?_; refine ⟨_, rfl, ?_⟩) | (with_reducible refine ev_scrLen ?_; refine ⟨_, rfl, ?_⟩) | (with_reducible refine ev_callScr ?_; refine ⟨_, rfl, ?_⟩) | (with_reducible refine ev_OL ?_; refine ⟨_, _, rfl, rfl, ?_⟩) | with_reducible refine ev_OR ?_ | with_reducible refine ev_rep ?_ | with_reducible refine ev_listRng1 ?_ | with_reducible refine eo_setO ?_
  | with_reducible refine es_name ?_ | with_reducible refine es_tup2 ?_ | with_reducible refine es_tup3 ?_
  | with_reducible refine ed_addI ?_ | with_reducible refine ed_subI ?_ | with_reducible refine ed_cmp ?_ | with_reducible refine ed_eqI ?_ | with_reducible refine ed_neI ?_ | with_reducible refine ed_slT ?_ | with_reducible refine ed_slL ?_ | with_reducible refine ed_lenT ?_ | with_reducible refine ed_lenL ?_ | with_reducible refine ed_lenS ?_ | with_reducible refine ed_inS ?_ | with_reducible refine ed_itT ?_ | with_reducible refine ed_itL ?_ | with_reducible refine ed_tupL ?_ | with_reducible refine ed_tupT ?_ | with_reducible refine ed_listL ?_ | with_reducible refine ed_listT ?_ | with_reducible refine ed_neg ?_ | with_reducible refine ed_max ?_ | with_reducible refine ed_min ?_ | with_reducible refine ed_intB ?_
  | with_reducible refine ev_rng1 ?_ | with_reducible refine ev_rng2 ?_)
local macro_rules | `(tactic| walk_at "sd") => `(tactic| first | rfl | assumption | (simp only [decide_eq_true_eq, decide_eq_false_iff_not, Bool.not_eq_true', Bool.not_eq_false', Bool.and_eq_true, Bool.or_eq_true, List.length_map, List.length_cons, List.length_nil, List.length_append, List.length_range] at *; omega))
local macro_rules | `(tactic| walk_at "e2") => `(tactic| first
  | walk_at "e1" | with_reducible refine ⟨_, rfl, ?_⟩ | with_reducible refine ⟨_, _, rfl, ?_⟩
  | with_reducible refine And.intro (Eq.refl (List.length _)) ?_ | with_reducible refine And.intro (Nat.le_of_ble_eq_true (n := List.length _) rfl) ?_
  | with_reducible refine And.intro (Eq.refl (_ : Sx)) (?_ : Ed _ _)
  | ((with_reducible refine And.intro ?_ (And.intro ?_ (?_ : Ev _ _))); (· rfl); (· rfl))
  | ((with_reducible refine ed_ixT ?_ ?_ ?_); (· decide); (· rfl)) | ((with_reducible refine ed_ixL ?_ ?_ ?_); (· decide); (· rfl)) | ((with_reducible refine ed_at ?_ ?_ ?_); (· decide); (· rfl))
  | ((with_reducible refine ed_modI ?_ ?_); (· first | decide | omega))
  | with_reducible exact gives_nx | ((with_reducible refine gives_rt ?_); (· rfl)) | ((with_reducible refine And.intro ?_ ?_); (· exact rfl); (· with_reducible exact Eq.refl (_ : Sx))))
local macro_rules | `(tactic| walk_at "e") => `(tactic| repeat walk_at "e2")
/-- begin a def's spec -/
local macro_rules | `(tactic| walk_at "i") => `(tactic| simp only [initS, List.map_cons, List.map_nil, List.length_cons, List.length_nil, Nat.reduceAdd, Nat.reduceSub, List.replicate, List.cons_append, List.nil_append])
/-- a known truth decides -/
local macro_rules | `(tactic| walk_at "t") => `(tactic| first | ((with_reducible refine split_t ?_ ?_); (· walk_at "sd")) | ((with_reducible refine split_t' ?_ ?_); (· walk_at "sd")))
local macro_rules | `(tactic| walk_at "f") => `(tactic| first | ((with_reducible refine split_f ?_ ?_); (· walk_at "sd")) | ((with_reducible refine split_f' ?_ ?_); (· walk_at "sd")))
/-- all that is seen in a look -/
local macro_rules | `(tactic| walk_at "v") => `(tactic| (rw [sealAll_mk (by (simp only [List.set_cons_zero, List.set_cons_succ, List.map_cons, List.map_nil, sealS_none, sealS_dat, sealS_scr, sealS_own, List.getElem?_cons_zero, List.getElem?_cons_succ, sealC_lst]; rfl)) (by (simp only [List.set_cons_zero, List.set_cons_succ, List.map_cons, List.map_nil]; rfl))]))
def fours (ps : List Int) (t : List Nat) : List (List Nat) := match t with
  | [i, k] => ((pairs ps ps.length).filter fun u => match u with
    | [j, l] => decide (i < j) && decide (j ≤ k) && decide (k < l)
    | _ => false).map fun u => match u with
    | [j, l] => [i, j, k, l]
    | _ => []
  | _ => []
/-- the turnings that may be, in their order -/
def leT (a b : List Nat) : Bool := leD (tD a) (tD b)
def mb (ps : List Int) : List (List Nat) := (pairs ps ps.length ++ (pairs ps ps.length).flatMap (fours ps)).mergeSort leT
end Lw

set_option maxHeartbeats 4000000
namespace Lw
open PySem Fu
local macro_rules | `(tactic| walk_at "e1") => `(tactic| first
  | with_reducible refine eo_seq ?_ | (with_reducible refine then_nx' ?_; refine ⟨?_, ?_, ?_⟩; rotate_left; · (try dsimp only [List.set, List.length_cons, List.length_nil, List.cons_append, List.nil_append, Nat.zero_add, Nat.reduceAdd]); exact rfl) | with_reducible refine then_rt ?_ | with_reducible refine eo_if ?_ | with_reducible refine eo_ret ?_ | with_reducible refine eo_set ?_ | with_reducible refine eo_asg ?_ | with_reducible refine eo_drop ?_ | with_reducible refine eo_nx ?_ | with_reducible refine eo_par ?_ | with_reducible refine eo_own ?_ | with_reducible refine eo_retN ?_ | with_reducible refine eo_for ?_ | with_reducible refine eo_retO ?_
  | with_reducible refine ev_c ?_ | (with_reducible refine ev_var ?_; refine ⟨_, rfl, ?_⟩) | with_reducible refine ev_bin ?_ | with_reducible refine ev_un ?_ | with_reducible refine ev_nil ?_ | with_reducible refine ev_cons ?_
  | with_reducible refine ev_tup ?_ | with_reducible refine ev_lst ?_ | with_reducible refine ev_call ?_ | with_reducible refine ev_callF ?_ | with_reducible refine ev_isi ?_ | with_reducible refine ev_isi2 ?_ | with_reducible refine ev_andV ?_ | with_reducible refine ev_orV ?_ | with_reducible refine ev_notV ?_
  | with_reducible refine ev_B ?_ | with_reducible refine ev_and ?_ | with_reducible refine ev_or ?_ | with_reducible refine ev_not ?_ | with_reducible refine ev_yes ?_ | with_reducible refine ev_if ?_ | with_reducible refine ev_no ?_ | with_reducible refine ev_so ?_ | with_reducible refine ev_sl ?_ | with_reducible refine ev_items ?_
  | (with_reducible refine ev_ixO ?_; refine ⟨_, _, rfl, rfl, ?_⟩) | (with_reducible refine ev_varO ?_; refine ⟨_, _, rfl, rfl, ?_⟩) | (with_reducible refine ev_lenO ?_; refine ⟨_, _, rfl, rfl, ?_⟩) | (with_reducible refine ev_scrSl ?_; refine ⟨_, rfl, ?_⟩) | (with_reducible refine ev_scrLen ?_; refine ⟨_, rfl, ?_⟩) | (with_reducible refine ev_callScr ?_; refine ⟨_, rfl, ?_⟩) | (with_reducible refine ev_OL ?_; refine ⟨_, _, rfl, rfl, ?_⟩) | with_reducible refine ev_OR ?_ | with_reducible refine ev_rep ?_ | with_reducible refine ev_listRng1 ?_ | with_reducible refine eo_setO ?_
  | with_reducible refine es_name ?_ | with_reducible refine es_tup2 ?_ | with_reducible refine es_tup3 ?_
  | with_reducible refine ed_addI ?_ | with_reducible refine ed_subI ?_ | with_reducible refine ed_cmp ?_ | with_reducible refine ed_eqI ?_ | with_reducible refine ed_neI ?_ | with_reducible refine ed_slT ?_ | with_reducible refine ed_slL ?_ | with_reducible refine ed_lenT ?_ | with_reducible refine ed_lenL ?_ | with_reducible refine ed_lenS ?_ | with_reducible refine ed_inS ?_ | with_reducible refine ed_itT ?_ | with_reducible refine ed_itL ?_ | with_reducible refine ed_tupL ?_ | with_reducible refine ed_tupT ?_ | with_reducible refine ed_listL ?_ | with_reducible refine ed_listT ?_ | with_reducible refine ed_neg ?_ | with_reducible refine ed_max ?_ | with_reducible refine ed_min ?_ | with_reducible refine ed_intB ?_
  | with_reducible refine ev_rng1 ?_ | with_reducible refine ev_rng2 ?_)
local macro_rules | `(tactic| walk_at "sd") => `(tactic| first | rfl | assumption | (simp only [decide_eq_true_eq, decide_eq_false_iff_not, Bool.not_eq_true', Bool.not_eq_false', Bool.and_eq_true, Bool.or_eq_true, List.length_map, List.length_cons, List.length_nil, List.length_append, List.length_range] at *; omega))
local macro_rules | `(tactic| walk_at "e2") => `(tactic| first
  | walk_at "e1" | with_reducible refine ⟨_, rfl, ?_⟩ | with_reducible refine ⟨_, _, rfl, ?_⟩
  | with_reducible refine And.intro (Eq.refl (List.length _)) ?_ | with_reducible refine And.intro (Nat.le_of_ble_eq_true (n := List.length _) rfl) ?_
  | with_reducible refine And.intro (Eq.refl (_ : Sx)) (?_ : Ed _ _)
  | ((with_reducible refine And.intro ?_ (And.intro ?_ (?_ : Ev _ _))); (· rfl); (· rfl))
  | ((with_reducible refine ed_ixT ?_ ?_ ?_); (· decide); (· rfl)) | ((with_reducible refine ed_ixL ?_ ?_ ?_); (· decide); (· rfl)) | ((with_reducible refine ed_at ?_ ?_ ?_); (· decide); (· rfl))
  | ((with_reducible refine ed_modI ?_ ?_); (· first | decide | omega))
  | with_reducible exact gives_nx | ((with_reducible refine gives_rt ?_); (· rfl)) | ((with_reducible refine And.intro ?_ ?_); (· exact rfl); (· with_reducible exact Eq.refl (_ : Sx))))
local macro_rules | `(tactic| walk_at "e") => `(tactic| repeat walk_at "e2")
/-- begin a def's spec -/
local macro_rules | `(tactic| walk_at "i") => `(tactic| simp only [initS, List.map_cons, List.map_nil, List.length_cons, List.length_nil, Nat.reduceAdd, Nat.reduceSub, List.replicate, List.cons_append, List.nil_append])
/-- a known truth decides -/
local macro_rules | `(tactic| walk_at "t") => `(tactic| first | ((with_reducible refine split_t ?_ ?_); (· walk_at "sd")) | ((with_reducible refine split_t' ?_ ?_); (· walk_at "sd")))
local macro_rules | `(tactic| walk_at "f") => `(tactic| first | ((with_reducible refine split_f ?_ ?_); (· walk_at "sd")) | ((with_reducible refine split_f' ?_ ?_); (· walk_at "sd")))
/-- all that is seen in a look -/
local macro_rules | `(tactic| walk_at "v") => `(tactic| (rw [sealAll_mk (by (simp only [List.set_cons_zero, List.set_cons_succ, List.map_cons, List.map_nil, sealS_none, sealS_dat, sealS_scr, sealS_own, List.getElem?_cons_zero, List.getElem?_cons_succ, sealC_lst]; rfl)) (by (simp only [List.set_cons_zero, List.set_cons_succ, List.map_cons, List.map_nil]; rfl))]))
/-! ### what a turning does to a list -/
end Lw

set_option maxHeartbeats 4000000
namespace Lw
open PySem Fu
local macro_rules | `(tactic| walk_at "e1") => `(tactic| first
  | with_reducible refine eo_seq ?_ | (with_reducible refine then_nx' ?_; refine ⟨?_, ?_, ?_⟩; rotate_left; · (try dsimp only [List.set, List.length_cons, List.length_nil, List.cons_append, List.nil_append, Nat.zero_add, Nat.reduceAdd]); exact rfl) | with_reducible refine then_rt ?_ | with_reducible refine eo_if ?_ | with_reducible refine eo_ret ?_ | with_reducible refine eo_set ?_ | with_reducible refine eo_asg ?_ | with_reducible refine eo_drop ?_ | with_reducible refine eo_nx ?_ | with_reducible refine eo_par ?_ | with_reducible refine eo_own ?_ | with_reducible refine eo_retN ?_ | with_reducible refine eo_for ?_ | with_reducible refine eo_retO ?_
  | with_reducible refine ev_c ?_ | (with_reducible refine ev_var ?_; refine ⟨_, rfl, ?_⟩) | with_reducible refine ev_bin ?_ | with_reducible refine ev_un ?_ | with_reducible refine ev_nil ?_ | with_reducible refine ev_cons ?_
  | with_reducible refine ev_tup ?_ | with_reducible refine ev_lst ?_ | with_reducible refine ev_call ?_ | with_reducible refine ev_callF ?_ | with_reducible refine ev_isi ?_ | with_reducible refine ev_isi2 ?_ | with_reducible refine ev_andV ?_ | with_reducible refine ev_orV ?_ | with_reducible refine ev_notV ?_
  | with_reducible refine ev_B ?_ | with_reducible refine ev_and ?_ | with_reducible refine ev_or ?_ | with_reducible refine ev_not ?_ | with_reducible refine ev_yes ?_ | with_reducible refine ev_if ?_ | with_reducible refine ev_no ?_ | with_reducible refine ev_so ?_ | with_reducible refine ev_sl ?_ | with_reducible refine ev_items ?_
  | (with_reducible refine ev_ixO ?_; refine ⟨_, _, rfl, rfl, ?_⟩) | (with_reducible refine ev_varO ?_; refine ⟨_, _, rfl, rfl, ?_⟩) | (with_reducible refine ev_lenO ?_; refine ⟨_, _, rfl, rfl, ?_⟩) | (with_reducible refine ev_scrSl ?_; refine ⟨_, rfl, ?_⟩) | (with_reducible refine ev_scrLen ?_; refine ⟨_, rfl, ?_⟩) | (with_reducible refine ev_callScr ?_; refine ⟨_, rfl, ?_⟩) | (with_reducible refine ev_OL ?_; refine ⟨_, _, rfl, rfl, ?_⟩) | with_reducible refine ev_OR ?_ | with_reducible refine ev_rep ?_ | with_reducible refine ev_listRng1 ?_ | with_reducible refine eo_setO ?_
  | with_reducible refine es_name ?_ | with_reducible refine es_tup2 ?_ | with_reducible refine es_tup3 ?_
  | with_reducible refine ed_addI ?_ | with_reducible refine ed_subI ?_ | with_reducible refine ed_cmp ?_ | with_reducible refine ed_eqI ?_ | with_reducible refine ed_neI ?_ | with_reducible refine ed_slT ?_ | with_reducible refine ed_slL ?_ | with_reducible refine ed_lenT ?_ | with_reducible refine ed_lenL ?_ | with_reducible refine ed_lenS ?_ | with_reducible refine ed_inS ?_ | with_reducible refine ed_itT ?_ | with_reducible refine ed_itL ?_ | with_reducible refine ed_tupL ?_ | with_reducible refine ed_tupT ?_ | with_reducible refine ed_listL ?_ | with_reducible refine ed_listT ?_ | with_reducible refine ed_neg ?_ | with_reducible refine ed_max ?_ | with_reducible refine ed_min ?_ | with_reducible refine ed_intB ?_
  | with_reducible refine ev_rng1 ?_ | with_reducible refine ev_rng2 ?_)
local macro_rules | `(tactic| walk_at "sd") => `(tactic| first | rfl | assumption | (simp only [decide_eq_true_eq, decide_eq_false_iff_not, Bool.not_eq_true', Bool.not_eq_false', Bool.and_eq_true, Bool.or_eq_true, List.length_map, List.length_cons, List.length_nil, List.length_append, List.length_range] at *; omega))
local macro_rules | `(tactic| walk_at "e2") => `(tactic| first
  | walk_at "e1" | with_reducible refine ⟨_, rfl, ?_⟩ | with_reducible refine ⟨_, _, rfl, ?_⟩
  | with_reducible refine And.intro (Eq.refl (List.length _)) ?_ | with_reducible refine And.intro (Nat.le_of_ble_eq_true (n := List.length _) rfl) ?_
  | with_reducible refine And.intro (Eq.refl (_ : Sx)) (?_ : Ed _ _)
  | ((with_reducible refine And.intro ?_ (And.intro ?_ (?_ : Ev _ _))); (· rfl); (· rfl))
  | ((with_reducible refine ed_ixT ?_ ?_ ?_); (· decide); (· rfl)) | ((with_reducible refine ed_ixL ?_ ?_ ?_); (· decide); (· rfl)) | ((with_reducible refine ed_at ?_ ?_ ?_); (· decide); (· rfl))
  | ((with_reducible refine ed_modI ?_ ?_); (· first | decide | omega))
  | with_reducible exact gives_nx | ((with_reducible refine gives_rt ?_); (· rfl)) | ((with_reducible refine And.intro ?_ ?_); (· exact rfl); (· with_reducible exact Eq.refl (_ : Sx))))
local macro_rules | `(tactic| walk_at "e") => `(tactic| repeat walk_at "e2")
/-- begin a def's spec -/
local macro_rules | `(tactic| walk_at "i") => `(tactic| simp only [initS, List.map_cons, List.map_nil, List.length_cons, List.length_nil, Nat.reduceAdd, Nat.reduceSub, List.replicate, List.cons_append, List.nil_append])
/-- a known truth decides -/
local macro_rules | `(tactic| walk_at "t") => `(tactic| first | ((with_reducible refine split_t ?_ ?_); (· walk_at "sd")) | ((with_reducible refine split_t' ?_ ?_); (· walk_at "sd")))
local macro_rules | `(tactic| walk_at "f") => `(tactic| first | ((with_reducible refine split_f ?_ ?_); (· walk_at "sd")) | ((with_reducible refine split_f' ?_ ?_); (· walk_at "sd")))
/-- all that is seen in a look -/
local macro_rules | `(tactic| walk_at "v") => `(tactic| (rw [sealAll_mk (by (simp only [List.set_cons_zero, List.set_cons_succ, List.map_cons, List.map_nil, sealS_none, sealS_dat, sealS_scr, sealS_own, List.getElem?_cons_zero, List.getElem?_cons_succ, sealC_lst]; rfl)) (by (simp only [List.set_cons_zero, List.set_cons_succ, List.map_cons, List.map_nil]; rfl))]))
end Lw

set_option maxHeartbeats 4000000
namespace Lw
open PySem Fu
local macro_rules | `(tactic| walk_at "e1") => `(tactic| first
  | with_reducible refine eo_seq ?_ | (with_reducible refine then_nx' ?_; refine ⟨?_, ?_, ?_⟩; rotate_left; · (try dsimp only [List.set, List.length_cons, List.length_nil, List.cons_append, List.nil_append, Nat.zero_add, Nat.reduceAdd]); exact rfl) | with_reducible refine then_rt ?_ | with_reducible refine eo_if ?_ | with_reducible refine eo_ret ?_ | with_reducible refine eo_set ?_ | with_reducible refine eo_asg ?_ | with_reducible refine eo_drop ?_ | with_reducible refine eo_nx ?_ | with_reducible refine eo_par ?_ | with_reducible refine eo_own ?_ | with_reducible refine eo_retN ?_ | with_reducible refine eo_for ?_ | with_reducible refine eo_retO ?_
  | with_reducible refine ev_c ?_ | (with_reducible refine ev_var ?_; refine ⟨_, rfl, ?_⟩) | with_reducible refine ev_bin ?_ | with_reducible refine ev_un ?_ | with_reducible refine ev_nil ?_ | with_reducible refine ev_cons ?_
  | with_reducible refine ev_tup ?_ | with_reducible refine ev_lst ?_ | with_reducible refine ev_call ?_ | with_reducible refine ev_callF ?_ | with_reducible refine ev_isi ?_ | with_reducible refine ev_isi2 ?_ | with_reducible refine ev_andV ?_ | with_reducible refine ev_orV ?_ | with_reducible refine ev_notV ?_
  | with_reducible refine ev_B ?_ | with_reducible refine ev_and ?_ | with_reducible refine ev_or ?_ | with_reducible refine ev_not ?_ | with_reducible refine ev_yes ?_ | with_reducible refine ev_if ?_ | with_reducible refine ev_no ?_ | with_reducible refine ev_so ?_ | with_reducible refine ev_sl ?_ | with_reducible refine ev_items ?_
  | (with_reducible refine ev_ixO ?_; refine ⟨_, _, rfl, rfl, ?_⟩) | (with_reducible refine ev_varO ?_; refine ⟨_, _, rfl, rfl, ?_⟩) | (with_reducible refine ev_lenO ?_; refine ⟨_, _, rfl, rfl, ?_⟩) | (with_reducible refine ev_scrSl ?_; refine ⟨_, rfl, ?_⟩) | (with_reducible refine ev_scrLen ?_; refine ⟨_, rfl, ?_⟩) | (with_reducible refine ev_callScr ?_; refine ⟨_, rfl, ?_⟩) | (with_reducible refine ev_OL ?_; refine ⟨_, _, rfl, rfl, ?_⟩) | with_reducible refine ev_OR ?_ | with_reducible refine ev_rep ?_ | with_reducible refine ev_listRng1 ?_ | with_reducible refine eo_setO ?_
  | with_reducible refine es_name ?_ | with_reducible refine es_tup2 ?_ | with_reducible refine es_tup3 ?_
  | with_reducible refine ed_addI ?_ | with_reducible refine ed_subI ?_ | with_reducible refine ed_cmp ?_ | with_reducible refine ed_eqI ?_ | with_reducible refine ed_neI ?_ | with_reducible refine ed_slT ?_ | with_reducible refine ed_slL ?_ | with_reducible refine ed_lenT ?_ | with_reducible refine ed_lenL ?_ | with_reducible refine ed_lenS ?_ | with_reducible refine ed_inS ?_ | with_reducible refine ed_itT ?_ | with_reducible refine ed_itL ?_ | with_reducible refine ed_tupL ?_ | with_reducible refine ed_tupT ?_ | with_reducible refine ed_listL ?_ | with_reducible refine ed_listT ?_ | with_reducible refine ed_neg ?_ | with_reducible refine ed_max ?_ | with_reducible refine ed_min ?_ | with_reducible refine ed_intB ?_
  | with_reducible refine ev_rng1 ?_ | with_reducible refine ev_rng2 ?_)
local macro_rules | `(tactic| walk_at "sd") => `(tactic| first | rfl | assumption | (simp only [decide_eq_true_eq, decide_eq_false_iff_not, Bool.not_eq_true', Bool.not_eq_false', Bool.and_eq_true, Bool.or_eq_true, List.length_map, List.length_cons, List.length_nil, List.length_append, List.length_range] at *; omega))
local macro_rules | `(tactic| walk_at "e2") => `(tactic| first
  | walk_at "e1" | with_reducible refine ⟨_, rfl, ?_⟩ | with_reducible refine ⟨_, _, rfl, ?_⟩
  | with_reducible refine And.intro (Eq.refl (List.length _)) ?_ | with_reducible refine And.intro (Nat.le_of_ble_eq_true (n := List.length _) rfl) ?_
  | with_reducible refine And.intro (Eq.refl (_ : Sx)) (?_ : Ed _ _)
  | ((with_reducible refine And.intro ?_ (And.intro ?_ (?_ : Ev _ _))); (· rfl); (· rfl))
  | ((with_reducible refine ed_ixT ?_ ?_ ?_); (· decide); (· rfl)) | ((with_reducible refine ed_ixL ?_ ?_ ?_); (· decide); (· rfl)) | ((with_reducible refine ed_at ?_ ?_ ?_); (· decide); (· rfl))
  | ((with_reducible refine ed_modI ?_ ?_); (· first | decide | omega))
  | with_reducible exact gives_nx | ((with_reducible refine gives_rt ?_); (· rfl)) | ((with_reducible refine And.intro ?_ ?_); (· exact rfl); (· with_reducible exact Eq.refl (_ : Sx))))
local macro_rules | `(tactic| walk_at "e") => `(tactic| repeat walk_at "e2")
/-- begin a def's spec -/
local macro_rules | `(tactic| walk_at "i") => `(tactic| simp only [initS, List.map_cons, List.map_nil, List.length_cons, List.length_nil, Nat.reduceAdd, Nat.reduceSub, List.replicate, List.cons_append, List.nil_append])
/-- a known truth decides -/
local macro_rules | `(tactic| walk_at "t") => `(tactic| first | ((with_reducible refine split_t ?_ ?_); (· walk_at "sd")) | ((with_reducible refine split_t' ?_ ?_); (· walk_at "sd")))
local macro_rules | `(tactic| walk_at "f") => `(tactic| first | ((with_reducible refine split_f ?_ ?_); (· walk_at "sd")) | ((with_reducible refine split_f' ?_ ?_); (· walk_at "sd")))
/-- all that is seen in a look -/
local macro_rules | `(tactic| walk_at "v") => `(tactic| (rw [sealAll_mk (by (simp only [List.set_cons_zero, List.set_cons_succ, List.map_cons, List.map_nil, sealS_none, sealS_dat, sealS_scr, sealS_own, List.getElem?_cons_zero, List.getElem?_cons_succ, sealC_lst]; rfl)) (by (simp only [List.set_cons_zero, List.set_cons_succ, List.map_cons, List.map_nil]; rfl))]))
theorem toks_int (a : Int) : PySem.W.keyToks (.int a) = [.inl a] := by simp [PySem.W.keyToks]
theorem dataLt_int (a b : Int) : PySem.W.dataLt (.int a) (.int b) = decide (a < b) := by
  unfold PySem.W.dataLt
  rw [toks_int, toks_int]
  by_cases h : a = b
  · subst h
    rw [PyProof.Rows.lex_self]
    simp
    rfl
  · rw [PyProof.Rows.lex_diff (by simpa using h)]
    rfl
theorem leD_int (a b : Int) : leD (.int a) (.int b) = decide (a ≤ b) := by
  have h : leD (.int a) (.int b) = !PySem.W.dataLt (.int b) (.int a) := rfl
  rw [h, dataLt_int, Bool.eq_iff_iff]
  simp
theorem sortOk_ints (ns : List Int) : sortOk (ns.map PyData.int) = true := by
  unfold sortOk
  rw [Bool.and_eq_true, Bool.and_eq_true, Bool.or_eq_true]
  refine ⟨⟨?_, .inr ?_⟩, ?_⟩
  · rw [List.all_eq_true]
    intro d hd
    rw [List.all_eq_true]
    intro e he
    obtain ⟨a, _, rfl⟩ := List.mem_map.mp hd
    obtain ⟨b, _, rfl⟩ := List.mem_map.mp he
    simp [PySem.W.alike]
  · rw [List.all_eq_true]
    intro d hd
    obtain ⟨a, ha, rfl⟩ := List.mem_map.mp hd
    rfl
  · rw [List.all_eq_true]
    intro d hd
    obtain ⟨a, ha, rfl⟩ := List.mem_map.mp hd
    rw [Bool.and_eq_true]
    exact ⟨decide_eq_true (by simp [PyData.depth]), (fine_int a).1⟩
end Lw

set_option maxHeartbeats 4000000
namespace Lw
open PySem Fu
local macro_rules | `(tactic| walk_at "e1") => `(tactic| first
  | with_reducible refine eo_seq ?_ | (with_reducible refine then_nx' ?_; refine ⟨?_, ?_, ?_⟩; rotate_left; · (try dsimp only [List.set, List.length_cons, List.length_nil, List.cons_append, List.nil_append, Nat.zero_add, Nat.reduceAdd]); exact rfl) | with_reducible refine then_rt ?_ | with_reducible refine eo_if ?_ | with_reducible refine eo_ret ?_ | with_reducible refine eo_set ?_ | with_reducible refine eo_asg ?_ | with_reducible refine eo_drop ?_ | with_reducible refine eo_nx ?_ | with_reducible refine eo_par ?_ | with_reducible refine eo_own ?_ | with_reducible refine eo_retN ?_ | with_reducible refine eo_for ?_ | with_reducible refine eo_retO ?_
  | with_reducible refine ev_c ?_ | (with_reducible refine ev_var ?_; refine ⟨_, rfl, ?_⟩) | with_reducible refine ev_bin ?_ | with_reducible refine ev_un ?_ | with_reducible refine ev_nil ?_ | with_reducible refine ev_cons ?_
  | with_reducible refine ev_tup ?_ | with_reducible refine ev_lst ?_ | with_reducible refine ev_call ?_ | with_reducible refine ev_callF ?_ | with_reducible refine ev_isi ?_ | with_reducible refine ev_isi2 ?_ | with_reducible refine ev_andV ?_ | with_reducible refine ev_orV ?_ | with_reducible refine ev_notV ?_
  | with_reducible refine ev_B ?_ | with_reducible refine ev_and ?_ | with_reducible refine ev_or ?_ | with_reducible refine ev_not ?_ | with_reducible refine ev_yes ?_ | with_reducible refine ev_if ?_ | with_reducible refine ev_no ?_ | with_reducible refine ev_so ?_ | with_reducible refine ev_sl ?_ | with_reducible refine ev_items ?_
  | (with_reducible refine ev_ixO ?_; refine ⟨_, _, rfl, rfl, ?_⟩) | (with_reducible refine ev_varO ?_; refine ⟨_, _, rfl, rfl, ?_⟩) | (with_reducible refine ev_lenO ?_; refine ⟨_, _, rfl, rfl, ?_⟩) | (with_reducible refine ev_scrSl ?_; refine ⟨_, rfl, ?_⟩) | (with_reducible refine ev_scrLen ?_; refine ⟨_, rfl, ?_⟩) | (with_reducible refine ev_callScr ?_; refine ⟨_, rfl, ?_⟩) | (with_reducible refine ev_OL ?_; refine ⟨_, _, rfl, rfl, ?_⟩) | with_reducible refine ev_OR ?_ | with_reducible refine ev_rep ?_ | with_reducible refine ev_listRng1 ?_ | with_reducible refine eo_setO ?_
  | with_reducible refine es_name ?_ | with_reducible refine es_tup2 ?_ | with_reducible refine es_tup3 ?_
  | with_reducible refine ed_addI ?_ | with_reducible refine ed_subI ?_ | with_reducible refine ed_cmp ?_ | with_reducible refine ed_eqI ?_ | with_reducible refine ed_neI ?_ | with_reducible refine ed_slT ?_ | with_reducible refine ed_slL ?_ | with_reducible refine ed_lenT ?_ | with_reducible refine ed_lenL ?_ | with_reducible refine ed_lenS ?_ | with_reducible refine ed_inS ?_ | with_reducible refine ed_itT ?_ | with_reducible refine ed_itL ?_ | with_reducible refine ed_tupL ?_ | with_reducible refine ed_tupT ?_ | with_reducible refine ed_listL ?_ | with_reducible refine ed_listT ?_ | with_reducible refine ed_neg ?_ | with_reducible refine ed_max ?_ | with_reducible refine ed_min ?_ | with_reducible refine ed_intB ?_
  | with_reducible refine ev_rng1 ?_ | with_reducible refine ev_rng2 ?_)
local macro_rules | `(tactic| walk_at "sd") => `(tactic| first | rfl | assumption | (simp only [decide_eq_true_eq, decide_eq_false_iff_not, Bool.not_eq_true', Bool.not_eq_false', Bool.and_eq_true, Bool.or_eq_true, List.length_map, List.length_cons, List.length_nil, List.length_append, List.length_range] at *; omega))
local macro_rules | `(tactic| walk_at "e2") => `(tactic| first
  | walk_at "e1" | with_reducible refine ⟨_, rfl, ?_⟩ | with_reducible refine ⟨_, _, rfl, ?_⟩
  | with_reducible refine And.intro (Eq.refl (List.length _)) ?_ | with_reducible refine And.intro (Nat.le_of_ble_eq_true (n := List.length _) rfl) ?_
  | with_reducible refine And.intro (Eq.refl (_ : Sx)) (?_ : Ed _ _)
  | ((with_reducible refine And.intro ?_ (And.intro ?_ (?_ : Ev _ _))); (· rfl); (· rfl))
  | ((with_reducible refine ed_ixT ?_ ?_ ?_); (· decide); (· rfl)) | ((with_reducible refine ed_ixL ?_ ?_ ?_); (· decide); (· rfl)) | ((with_reducible refine ed_at ?_ ?_ ?_); (· decide); (· rfl))
  | ((with_reducible refine ed_modI ?_ ?_); (· first | decide | omega))
  | with_reducible exact gives_nx | ((with_reducible refine gives_rt ?_); (· rfl)) | ((with_reducible refine And.intro ?_ ?_); (· exact rfl); (· with_reducible exact Eq.refl (_ : Sx))))
local macro_rules | `(tactic| walk_at "e") => `(tactic| repeat walk_at "e2")
/-- begin a def's spec -/
local macro_rules | `(tactic| walk_at "i") => `(tactic| simp only [initS, List.map_cons, List.map_nil, List.length_cons, List.length_nil, Nat.reduceAdd, Nat.reduceSub, List.replicate, List.cons_append, List.nil_append])
/-- a known truth decides -/
local macro_rules | `(tactic| walk_at "t") => `(tactic| first | ((with_reducible refine split_t ?_ ?_); (· walk_at "sd")) | ((with_reducible refine split_t' ?_ ?_); (· walk_at "sd")))
local macro_rules | `(tactic| walk_at "f") => `(tactic| first | ((with_reducible refine split_f ?_ ?_); (· walk_at "sd")) | ((with_reducible refine split_f' ?_ ?_); (· walk_at "sd")))
/-- all that is seen in a look -/
local macro_rules | `(tactic| walk_at "v") => `(tactic| (rw [sealAll_mk (by (simp only [List.set_cons_zero, List.set_cons_succ, List.map_cons, List.map_nil, sealS_none, sealS_dat, sealS_scr, sealS_own, List.getElem?_cons_zero, List.getElem?_cons_succ, sealC_lst]; rfl)) (by (simp only [List.set_cons_zero, List.set_cons_succ, List.map_cons, List.map_nil]; rfl))]))
open Pt Gr
def iD (i : Nat) : D := .int (i : Int)
def liD (part : List Nat) : D := .list (part.map iD)
theorem li_ints (part : List Nat) : part.map iD = (part.map fun i : Nat => (i : Int)).map PyData.int := by rw [List.map_map]; rfl
theorem eo_while {gt : M Bool} {body : Sx → Option Out} {Z : Out → Prop} (I : Nat → Sx → Prop) (hs : ∀ m S, I m S → Ev (gt S) fun b S1 => (b = true → Eo (body S1) fun o => ∃ S2 m2, o = .nx S2 ∧ m2 < m ∧ I m2 S2) ∧ (b = false → Z (.nx S1))) : ∀ (n m : Nat) (S : Sx), m < n → I m S → Eo (gWhile gt body n S) Z
  | 0, m, S, h, _ => by omega
  | n + 1, m, S, h, hI => by
    obtain ⟨b, S1, e, h1, h2⟩ := hs m S hI
    cases b with
    | true =>
      obtain ⟨o, e2, S2, m2, rfl, hm, hI2⟩ := h1 rfl
      obtain ⟨o2, e3, q⟩ := eo_while I hs n m2 S2 (by omega) hI2
      exact ⟨o2, by rw [gWhile]; simp only [e, e2, Option.bind_some, if_true]; exact e3, q⟩
    | false => exact ⟨_, by rw [gWhile]; simp only [e, Option.bind_some]; rfl, h2 rfl⟩
theorem sorted_pw {ns ms : List Int} (h : ns.Perm ms) (hp : ms.Pairwise (· < ·)) : (ns.map PyData.int).mergeSort leD = ms.map PyData.int := by
  refine List.Perm.eq_of_pairwise (le := fun a b => leD a b = true) ?_ (List.pairwise_mergeSort ?_ ?_ _) ?_ ((List.mergeSort_perm _ _).trans (h.map _))
  · intro a b ha hb h1 h2
    have ha := (List.mergeSort_perm _ _).mem_iff.mp ha
    obtain ⟨i, _, rfl⟩ := List.mem_map.mp ha
    obtain ⟨j, _, rfl⟩ := List.mem_map.mp hb
    rw [leD_int, decide_eq_true_eq] at h1 h2
    rw [Int.le_antisymm h1 h2]
  · exact fun a b c => (PySem.W.sortLe_total _ _ _).trans a b c
  · exact fun a b => by rw [Bool.or_eq_true]; exact (PySem.W.sortLe_total _ _ _).total a b
  · rw [List.pairwise_map]
    refine hp.imp fun {i j} hij => ?_
    rw [leD_int, decide_eq_true_eq]
    omega
theorem ed_sortedPw {part ys : List Nat} {Q : D → Prop} (h : part.Perm ys) (hp : ys.Pairwise (· < ·)) (q : Q (liD ys)) : Ed (dSorted [.list (part.map iD)]) Q := by
  refine ⟨_, ?_, q⟩
  rw [li_ints]
  simp only [dSorted, sortOk_ints, if_true]
  rw [sorted_pw (h.map _) (by rw [List.pairwise_map]; exact hp.imp fun {i j} hij => by omega)]
  unfold liD
  rw [li_ints]
theorem mem_cast {part : List Nat} {i : Nat} : (i : Int) ∈ part.map (fun i : Nat => (i : Int)) ↔ i ∈ part := by
  rw [List.mem_map]
  constructor
  · rintro ⟨j, hj, e⟩
    have : j = i := by omega
    exact this ▸ hj
  · exact fun h => ⟨i, h, rfl⟩
theorem line_lat {L : D} {ls : List Ln} (hL : Lns L ls) {i : Nat} (hi : i < ls.length) : ∃ xs x, Sq L xs ∧ xs.length = ls.length ∧ xs[((i : Int)).toNat]? = some x ∧ Sq x [.int (lat ls i).1, .int (lat ls i).2.1, ch (lat ls i).2.2] := by
  obtain ⟨xs, x, s, hl, hx, h⟩ := line_at hL (lat_at hi)
  exact ⟨xs, x, s, hl, by rw [Int.toNat_natCast]; exact hx, h⟩
theorem met_len (ls : List Ln) : ∀ part : List Nat, (met ls part).length = 2 * part.length
  | [] => rfl
  | a :: l => by
    have := met_len ls l
    unfold met at this ⊢
    rw [List.flatMap_cons, List.length_append, this]
    simp only [List.length_cons, List.length_nil]
    omega
theorem cut2 (a b c : D) : cutL [a, b, c] none (some 2) = [a, b] := rfl
theorem x_hangs_on {w : D} {p : Int} {ls : List Ln} (hw : Web w p ls) {part : List Nat} (hp : ∀ i ∈ part, i < ls.length) (hz : part.length ≤ 4000) {i : Nat} (hi : i < ls.length) : m_hangs_on [w, .list (part.map iD), .int (i : Int)] = some (.bool (hang ls part i)) := by
  obtain ⟨L, sw, hL⟩ := id hw
  unfold m_hangs_on; refine mF_of ?_; walk_at "i"; unfold g_hangs_on
  walk_at "e"
  refine ev_lc2X (xs := part) (enc := iD) (b := fun _ => true) (es := fun i => [(lat ls i).1, (lat ls i).2.1]) (enc1 := fun _ q => .int q) (b1 := fun _ _ => true) (f := fun _ q => .int q) (by decide) ?_
  walk_at "e"
  refine ⟨rfl, fun j hj => ?_, ?_⟩
  · obtain ⟨xs, x, sx, hxl, hx, hln⟩ := line_lat hL (hp j hj)
    walk_at "e"
    refine ⟨rfl, rfl, fun _ => ?_⟩
    walk_at "e"
    refine ed_ixQ sw (by decide) rfl ?_
    walk_at "e"
    refine ed_ixQ sx (by omega) hx ?_
    walk_at "e"
    refine ed_slQ hln fun z sz => ?_
    walk_at "e"
    refine ed_itQ sz ⟨⟨by rw [cut2]; rfl, rfl⟩, fun e he => ?_⟩
    walk_at "e"
    refine ⟨rfl, rfl, fun _ => ?_⟩
    walk_at "e"
  · have e : (part.filter fun _ => true).flatMap (fun i : Nat => (([(lat ls i).1, (lat ls i).2.1] : List Int).filter fun _ => true).map fun q => PyData.int q) = (met ls part).map PyData.int := by
      simp only [filter_tt]
      unfold met
      rw [List.map_flatMap]
    have hml := met_len ls part
    rw [e]
    refine ⟨by rw [List.length_map]; omega, ?_⟩
    walk_at "e"
    obtain ⟨xs, x, sx, hxl, hx, hln⟩ := line_lat hL hi
    refine ev_lcX (xs := [(lat ls i).1, (lat ls i).2.1]) (enc := .int) (b := fun _ => true) (g := fun q => .bool (decide (q ∈ met ls part))) ?_
    walk_at "e"
    refine ed_ixQ sw (by decide) rfl ?_
    walk_at "e"
    refine ed_ixQ sx (by omega) hx ?_
    walk_at "e"
    refine ed_slQ hln fun z sz => ?_
    walk_at "e"
    refine ed_itQ sz ⟨by rw [cut2]; rfl, fun q hq => ?_, ?_⟩
    · walk_at "e"
      refine ⟨rfl, rfl, fun _ => ?_⟩
      walk_at "e"
      refine ed_inI ?_
      walk_at "e"
    · rw [filter_tt]
      walk_at "e"
      refine any_map (fun q => decide (q ∈ met ls part)) _ ?_
      refine gives_rt ?_
      unfold hang
      simp only [List.any_cons, List.any_nil, Bool.or_false, Bool.decide_or]
theorem wb_bounds {p : Int} {ls : List Ln} (h : WbOk p ls) : ∀ l ∈ ls, 0 ≤ l.1 ∧ l.1 < p ∧ 0 ≤ l.2.1 ∧ l.2.1 < p := fun l hl => ⟨(h.all l hl).a0, (h.all l hl).a1, (h.all l hl).b0, (h.all l hl).b1⟩
theorem look1 {α : Type} {a c : α} {tl : List α} : (a :: (tl ++ [c]))[tl.length + 1]? = some c := by simp
theorem set1 {α : Type} {a c d : α} {tl : List α} : (a :: (tl ++ [c])).set (tl.length + 1) d = a :: (tl ++ [d]) := by simp
theorem setEnd {α : Type} {c d : α} {tl : List α} : (tl ++ [c]).set tl.length d = tl ++ [d] := by simp
theorem fine_iD {part : List Nat} : ∀ x ∈ part.map iD, Fine 0 x := fun x hx => by obtain ⟨i, _, rfl⟩ := List.mem_map.mp hx; exact fine_int _
theorem pw_partAt (p : Int) (ls : List Ln) (u : Int) : (partAt p ls u).Pairwise (· < ·) := List.Pairwise.filter _ List.pairwise_lt_range
theorem part_perm {p : Int} {ls : List Ln} {u : Int} {part : List Nat} (nd : part.Nodup) (h : ∀ i, i ∈ part ↔ i < ls.length ∧ clr p ls i = u) : part.Perm (partAt p ls u) := by
  have h2 : (partAt p ls u).Nodup := List.nodup_range.filter _
  rw [List.perm_iff_count]
  intro a
  have k := (h a).trans mem_partAt.symm
  rw [nd.count, h2.count]
  by_cases z : a ∈ part
  · rw [if_pos z, if_pos (k.mp z)]
  · rw [if_neg z, if_neg fun y => z (k.mpr y)]
theorem nodup_lt {l : List Nat} {n : Nat} (nd : l.Nodup) (h : ∀ i ∈ l, i < n) : l.length ≤ n := by
  induction n generalizing l with
  | zero =>
    cases l with
    | nil => exact Nat.le_refl _
    | cons a l => exact absurd (h a List.mem_cons_self) (by omega)
  | succ n ih =>
    have h2 := ih (l := l.filter fun i => decide (i ≠ n)) (nd.filter _) fun i hi => by
      obtain ⟨h1, h3⟩ := List.mem_filter.mp hi
      have := h i h1
      have := of_decide_eq_true h3
      omega
    have h4 : l.length = (l.filter fun i => decide (i ≠ n)).length + l.count n := by
      clear h2 ih h nd
      induction l with
      | nil => rfl
      | cons a l ih =>
        rw [List.filter_cons, List.count_cons]
        by_cases e : a = n
        · subst e; simp at ih ⊢; omega
        · simp [e] at ih ⊢; omega
    have h5 : l.count n ≤ 1 := List.nodup_iff_count.mp nd n
    omega
theorem x_parts_of {w : D} {p : Int} {ls : List Ln} (hw : Web w p ls) (h : WbOk p ls) (hz : ls.length ≤ 4000) : m_parts_of [w] = some (.list ((partsL p ls).map liD)) := by
  obtain ⟨L, sw, hL⟩ := id hw
  obtain ⟨ys, sy, hyl⟩ := lns_len hL
  have hb := wb_bounds h
  unfold m_parts_of; refine mF_of ?_; walk_at "i"; unfold g_parts_of
  walk_at "e"
  refine ed_ixQ sw (by decide) rfl ?_
  walk_at "e"
  refine ed_lenQ sy ?_
  walk_at "e"
  refine ⟨by omega, by omega, ?_⟩
  walk_at "e"
  rw [hyl, Int.toNat_natCast, show rng 0 ls.length = (List.range ls.length).map iD from rng0 _]
  refine eo_while (fun m S => ∃ us left x3 x4 x5 tl, S = ⟨[some (.dat w), some (.own 0), some (.dat (.list (left.map iD))), x3, x4, x5], some (.lst ((us.map (partAt p ls)).map liD)) :: tl⟩ ∧ Outn p ls us left ∧ m = left.length) (fun m S hI => ?_) 100000 ls.length _ (by omega) ⟨[], List.range ls.length, none, none, none, [], rfl, Outn.start, by simp⟩
  obtain ⟨us, left, x3, x4, x5, tl, rfl, O, rfl⟩ := hI
  walk_at "e"
  refine ed_ne_nil (n := 0) fine_iD ?_
  walk_at "e"
  refine ⟨fun hne => ?_, fun he => ?_⟩
  · obtain ⟨s, L', rfl⟩ : ∃ s L', left = s :: L' := by
      cases left with
      | nil => simp at hne
      | cons s L' => exact ⟨s, L', rfl⟩
    obtain ⟨f1, f2, f3⟩ := O.facts
    have hlen : (s :: L').length ≤ ls.length := by
      rw [O.left_eq]
      have := List.length_filter_le (fun i => decide (clr p ls i ∉ us)) (List.range ls.length)
      rwa [List.length_range] at this
    have hus : us.length < 4001 := by
      have h1 := uss_len p ls
      rw [← O.us_eq, List.length_append] at h1
      omega
    walk_at "e"
    rw [show cutL ((s :: L').map iD) none (some 1) = [s].map iD from by simp [cutL, HT.sIx]]
    refine eo_while (fun m S => ∃ part left more x5, S = ⟨[some (.dat w), some (.own 0), some (.dat (.list (left.map iD))), some (.own (tl.length + 1)), some (.dat (.list (more.map iD))), x5], some (.lst ((us.map (partAt p ls)).map liD)) :: (tl ++ [some (.lst (part.map iD))])⟩ ∧ Inn p ls (s :: L') s part left more ∧ m = left.length) (fun m S hI => ?_) 100000 (s :: L').length _ (by omega) ⟨[], s :: L', [s], x5, rfl, Inn.start List.mem_cons_self, rfl⟩
    obtain ⟨part, left, more, x5, rfl, I, rfl⟩ := hI
    have hpn : ∀ i ∈ part, i < ls.length := fun i hi => f1 i (I.sub i hi).1
    have hpl : part.length ≤ ls.length := nodup_lt I.nd hpn
    walk_at "e"
    refine ed_ne_nil (n := 0) fine_iD ?_
    walk_at "e"
    refine ⟨fun hm => ?_, fun hm => ?_⟩
    · have hm : more ≠ [] := by simpa using hm
      obtain ⟨I2, hlt⟩ := I.step hb f1 f2 List.mem_cons_self hm
      have hpn2 : ∀ i ∈ part ++ more, i < ls.length := fun i hi => f1 i (I2.sub i hi).1
      have hpl2 : (part ++ more).length ≤ ls.length := nodup_lt I2.nd hpn2
      walk_at "e"
      refine eo_augL ⟨_, _, rfl, look1, ?_⟩
      walk_at "e"
      refine ⟨_, _, rfl, look1, by rw [List.length_map, List.length_map]; rw [List.length_append] at hpl2; omega, ?_⟩
      rw [set1, ← List.map_append]
      walk_at "e"
      refine ev_lcX (xs := left) (enc := iD) (b := fun i => decide (i ∉ more)) (g := iD) ?_
      walk_at "e"
      refine ⟨rfl, fun i hi => ?_, ?_⟩
      · walk_at "e"
        rw [li_ints]
        refine ed_notInI ?_
        walk_at "e"
        refine ⟨rfl, by rw [Bool.eq_iff_iff]; simp only [Bool.not_eq_true', decide_eq_false_iff_not, decide_eq_true_eq, mem_cast], fun _ => ?_⟩
        walk_at "e"
      · walk_at "e"
        refine ev_viewN ?_
        rw [sealAll_mk (by simp only [List.map_cons, List.map_nil, sealS_own, look1, sealC_lst, sealS_dat, List.getElem?_cons_zero]; rfl) (by rfl)]
        refine ev_lcX (xs := left.filter fun i => decide (i ∉ more)) (enc := iD) (b := hang ls (part ++ more)) (g := iD) ?_
        walk_at "e"
        refine ⟨rfl, fun i hi => ?_, ?_⟩
        · walk_at "e"
          have hiL : i ∈ s :: L' := by
            have := (List.mem_filter.mp hi).1
            rw [I.left_eq] at this
            exact (List.mem_filter.mp this).1
          refine Ed.of (x_hangs_on hw hpn2 (by omega) (f1 i hiL)) ?_
          walk_at "e"
          refine ⟨rfl, rfl, fun _ => ?_⟩
          walk_at "e"
        · refine ⟨_, rfl, hards_map (fun _ => rfl), ?_⟩
          walk_at "e"
          exact ⟨_, _, rfl, hlt, _, _, _, _, rfl, I2, rfl⟩
    · have hm : more = [] := by simpa using hm
      subst hm
      obtain ⟨d1, d2⟩ := I.done hb f1 f3 List.mem_cons_self
      walk_at "e"
      refine ev_app ⟨_, _, rfl, rfl, ?_⟩
      walk_at "e"
      refine ev_varO ⟨_, _, rfl, look1, ?_⟩
      walk_at "e"
      refine ed_sortedPw (part_perm I.nd d1) (pw_partAt p ls _) ?_
      refine ⟨_, rfl, by rw [List.length_map, List.length_map]; omega, ?_⟩
      walk_at "e"
      refine ⟨_, left.length, rfl, ?_, us ++ [clr p ls s], left, some (.dat (.list (part.map iD))), some (.dat (.list [])), x5, tl ++ [none], ?_, O.step d2, rfl⟩
      · rw [d2, List.filter_cons_of_neg (by simp)]
        have := List.length_filter_le (fun i => decide (clr p ls i ≠ clr p ls s)) L'
        rw [List.length_cons]
        omega
      · simp only [List.map_append, List.map_cons, List.map_nil, set1, List.set_cons_zero, List.set_cons_succ, setEnd]
  · have he : left = [] := by simpa using he
    subst he
    walk_at "e"
    refine gives_rt ?_
    rw [O.done]
    rfl
end Lw

set_option maxHeartbeats 4000000
namespace Lw
open PySem Fu
local macro_rules | `(tactic| walk_at "e1") => `(tactic| first
  | with_reducible refine eo_seq ?_ | (with_reducible refine then_nx' ?_; refine ⟨?_, ?_, ?_⟩; rotate_left; · (try dsimp only [List.set, List.length_cons, List.length_nil, List.cons_append, List.nil_append, Nat.zero_add, Nat.reduceAdd]); exact rfl) | with_reducible refine then_rt ?_ | with_reducible refine eo_if ?_ | with_reducible refine eo_ret ?_ | with_reducible refine eo_set ?_ | with_reducible refine eo_asg ?_ | with_reducible refine eo_drop ?_ | with_reducible refine eo_nx ?_ | with_reducible refine eo_par ?_ | with_reducible refine eo_own ?_ | with_reducible refine eo_retN ?_ | with_reducible refine eo_for ?_ | with_reducible refine eo_retO ?_
  | with_reducible refine ev_c ?_ | (with_reducible refine ev_var ?_; refine ⟨_, rfl, ?_⟩) | with_reducible refine ev_bin ?_ | with_reducible refine ev_un ?_ | with_reducible refine ev_nil ?_ | with_reducible refine ev_cons ?_
  | with_reducible refine ev_tup ?_ | with_reducible refine ev_lst ?_ | with_reducible refine ev_call ?_ | with_reducible refine ev_callF ?_ | with_reducible refine ev_isi ?_ | with_reducible refine ev_isi2 ?_ | with_reducible refine ev_andV ?_ | with_reducible refine ev_orV ?_ | with_reducible refine ev_notV ?_
  | with_reducible refine ev_B ?_ | with_reducible refine ev_and ?_ | with_reducible refine ev_or ?_ | with_reducible refine ev_not ?_ | with_reducible refine ev_yes ?_ | with_reducible refine ev_if ?_ | with_reducible refine ev_no ?_ | with_reducible refine ev_so ?_ | with_reducible refine ev_sl ?_ | with_reducible refine ev_items ?_
  | (with_reducible refine ev_ixO ?_; refine ⟨_, _, rfl, rfl, ?_⟩) | (with_reducible refine ev_varO ?_; refine ⟨_, _, rfl, rfl, ?_⟩) | (with_reducible refine ev_lenO ?_; refine ⟨_, _, rfl, rfl, ?_⟩) | (with_reducible refine ev_scrSl ?_; refine ⟨_, rfl, ?_⟩) | (with_reducible refine ev_scrLen ?_; refine ⟨_, rfl, ?_⟩) | (with_reducible refine ev_callScr ?_; refine ⟨_, rfl, ?_⟩) | (with_reducible refine ev_OL ?_; refine ⟨_, _, rfl, rfl, ?_⟩) | with_reducible refine ev_OR ?_ | with_reducible refine ev_rep ?_ | with_reducible refine ev_listRng1 ?_ | with_reducible refine eo_setO ?_
  | with_reducible refine es_name ?_ | with_reducible refine es_tup2 ?_ | with_reducible refine es_tup3 ?_
  | with_reducible refine ed_addI ?_ | with_reducible refine ed_subI ?_ | with_reducible refine ed_cmp ?_ | with_reducible refine ed_eqI ?_ | with_reducible refine ed_neI ?_ | with_reducible refine ed_slT ?_ | with_reducible refine ed_slL ?_ | with_reducible refine ed_lenT ?_ | with_reducible refine ed_lenL ?_ | with_reducible refine ed_lenS ?_ | with_reducible refine ed_inS ?_ | with_reducible refine ed_itT ?_ | with_reducible refine ed_itL ?_ | with_reducible refine ed_tupL ?_ | with_reducible refine ed_tupT ?_ | with_reducible refine ed_listL ?_ | with_reducible refine ed_listT ?_ | with_reducible refine ed_neg ?_ | with_reducible refine ed_max ?_ | with_reducible refine ed_min ?_ | with_reducible refine ed_intB ?_
  | with_reducible refine ev_rng1 ?_ | with_reducible refine ev_rng2 ?_)
local macro_rules | `(tactic| walk_at "sd") => `(tactic| first | rfl | assumption | (simp only [decide_eq_true_eq, decide_eq_false_iff_not, Bool.not_eq_true', Bool.not_eq_false', Bool.and_eq_true, Bool.or_eq_true, List.length_map, List.length_cons, List.length_nil, List.length_append, List.length_range] at *; omega))
local macro_rules | `(tactic| walk_at "e2") => `(tactic| first
  | walk_at "e1" | with_reducible refine ⟨_, rfl, ?_⟩ | with_reducible refine ⟨_, _, rfl, ?_⟩
  | with_reducible refine And.intro (Eq.refl (List.length _)) ?_ | with_reducible refine And.intro (Nat.le_of_ble_eq_true (n := List.length _) rfl) ?_
  | with_reducible refine And.intro (Eq.refl (_ : Sx)) (?_ : Ed _ _)
  | ((with_reducible refine And.intro ?_ (And.intro ?_ (?_ : Ev _ _))); (· rfl); (· rfl))
  | ((with_reducible refine ed_ixT ?_ ?_ ?_); (· decide); (· rfl)) | ((with_reducible refine ed_ixL ?_ ?_ ?_); (· decide); (· rfl)) | ((with_reducible refine ed_at ?_ ?_ ?_); (· decide); (· rfl))
  | ((with_reducible refine ed_modI ?_ ?_); (· first | decide | omega))
  | with_reducible exact gives_nx | ((with_reducible refine gives_rt ?_); (· rfl)) | ((with_reducible refine And.intro ?_ ?_); (· exact rfl); (· with_reducible exact Eq.refl (_ : Sx))))
local macro_rules | `(tactic| walk_at "e") => `(tactic| repeat walk_at "e2")
/-- begin a def's spec -/
local macro_rules | `(tactic| walk_at "i") => `(tactic| simp only [initS, List.map_cons, List.map_nil, List.length_cons, List.length_nil, Nat.reduceAdd, Nat.reduceSub, List.replicate, List.cons_append, List.nil_append])
/-- a known truth decides -/
local macro_rules | `(tactic| walk_at "t") => `(tactic| first | ((with_reducible refine split_t ?_ ?_); (· walk_at "sd")) | ((with_reducible refine split_t' ?_ ?_); (· walk_at "sd")))
local macro_rules | `(tactic| walk_at "f") => `(tactic| first | ((with_reducible refine split_f ?_ ?_); (· walk_at "sd")) | ((with_reducible refine split_f' ?_ ?_); (· walk_at "sd")))
/-- all that is seen in a look -/
local macro_rules | `(tactic| walk_at "v") => `(tactic| (rw [sealAll_mk (by (simp only [List.set_cons_zero, List.set_cons_succ, List.map_cons, List.map_nil, sealS_none, sealS_dat, sealS_scr, sealS_own, List.getElem?_cons_zero, List.getElem?_cons_succ, sealC_lst]; rfl)) (by (simp only [List.set_cons_zero, List.set_cons_succ, List.map_cons, List.map_nil]; rfl))]))
open Pt Gr
/-! #### the law's own wants -/
end Lw

set_option maxHeartbeats 4000000
namespace Lw
open PySem Fu
local macro_rules | `(tactic| walk_at "e1") => `(tactic| first
  | with_reducible refine eo_seq ?_ | (with_reducible refine then_nx' ?_; refine ⟨?_, ?_, ?_⟩; rotate_left; · (try dsimp only [List.set, List.length_cons, List.length_nil, List.cons_append, List.nil_append, Nat.zero_add, Nat.reduceAdd]); exact rfl) | with_reducible refine then_rt ?_ | with_reducible refine eo_if ?_ | with_reducible refine eo_ret ?_ | with_reducible refine eo_set ?_ | with_reducible refine eo_asg ?_ | with_reducible refine eo_drop ?_ | with_reducible refine eo_nx ?_ | with_reducible refine eo_par ?_ | with_reducible refine eo_own ?_ | with_reducible refine eo_retN ?_ | with_reducible refine eo_for ?_ | with_reducible refine eo_retO ?_
  | with_reducible refine ev_c ?_ | (with_reducible refine ev_var ?_; refine ⟨_, rfl, ?_⟩) | with_reducible refine ev_bin ?_ | with_reducible refine ev_un ?_ | with_reducible refine ev_nil ?_ | with_reducible refine ev_cons ?_
  | with_reducible refine ev_tup ?_ | with_reducible refine ev_lst ?_ | with_reducible refine ev_call ?_ | with_reducible refine ev_callF ?_ | with_reducible refine ev_isi ?_ | with_reducible refine ev_isi2 ?_ | with_reducible refine ev_andV ?_ | with_reducible refine ev_orV ?_ | with_reducible refine ev_notV ?_
  | with_reducible refine ev_B ?_ | with_reducible refine ev_and ?_ | with_reducible refine ev_or ?_ | with_reducible refine ev_not ?_ | with_reducible refine ev_yes ?_ | with_reducible refine ev_if ?_ | with_reducible refine ev_no ?_ | with_reducible refine ev_so ?_ | with_reducible refine ev_sl ?_ | with_reducible refine ev_items ?_
  | (with_reducible refine ev_ixO ?_; refine ⟨_, _, rfl, rfl, ?_⟩) | (with_reducible refine ev_varO ?_; refine ⟨_, _, rfl, rfl, ?_⟩) | (with_reducible refine ev_lenO ?_; refine ⟨_, _, rfl, rfl, ?_⟩) | (with_reducible refine ev_scrSl ?_; refine ⟨_, rfl, ?_⟩) | (with_reducible refine ev_scrLen ?_; refine ⟨_, rfl, ?_⟩) | (with_reducible refine ev_callScr ?_; refine ⟨_, rfl, ?_⟩) | (with_reducible refine ev_OL ?_; refine ⟨_, _, rfl, rfl, ?_⟩) | with_reducible refine ev_OR ?_ | with_reducible refine ev_rep ?_ | with_reducible refine ev_listRng1 ?_ | with_reducible refine eo_setO ?_
  | with_reducible refine es_name ?_ | with_reducible refine es_tup2 ?_ | with_reducible refine es_tup3 ?_
  | with_reducible refine ed_addI ?_ | with_reducible refine ed_subI ?_ | with_reducible refine ed_cmp ?_ | with_reducible refine ed_eqI ?_ | with_reducible refine ed_neI ?_ | with_reducible refine ed_slT ?_ | with_reducible refine ed_slL ?_ | with_reducible refine ed_lenT ?_ | with_reducible refine ed_lenL ?_ | with_reducible refine ed_lenS ?_ | with_reducible refine ed_inS ?_ | with_reducible refine ed_itT ?_ | with_reducible refine ed_itL ?_ | with_reducible refine ed_tupL ?_ | with_reducible refine ed_tupT ?_ | with_reducible refine ed_listL ?_ | with_reducible refine ed_listT ?_ | with_reducible refine ed_neg ?_ | with_reducible refine ed_max ?_ | with_reducible refine ed_min ?_ | with_reducible refine ed_intB ?_
  | with_reducible refine ev_rng1 ?_ | with_reducible refine ev_rng2 ?_)
local macro_rules | `(tactic| walk_at "sd") => `(tactic| first | rfl | assumption | (simp only [decide_eq_true_eq, decide_eq_false_iff_not, Bool.not_eq_true', Bool.not_eq_false', Bool.and_eq_true, Bool.or_eq_true, List.length_map, List.length_cons, List.length_nil, List.length_append, List.length_range] at *; omega))
local macro_rules | `(tactic| walk_at "e2") => `(tactic| first
  | walk_at "e1" | with_reducible refine ⟨_, rfl, ?_⟩ | with_reducible refine ⟨_, _, rfl, ?_⟩
  | with_reducible refine And.intro (Eq.refl (List.length _)) ?_ | with_reducible refine And.intro (Nat.le_of_ble_eq_true (n := List.length _) rfl) ?_
  | with_reducible refine And.intro (Eq.refl (_ : Sx)) (?_ : Ed _ _)
  | ((with_reducible refine And.intro ?_ (And.intro ?_ (?_ : Ev _ _))); (· rfl); (· rfl))
  | ((with_reducible refine ed_ixT ?_ ?_ ?_); (· decide); (· rfl)) | ((with_reducible refine ed_ixL ?_ ?_ ?_); (· decide); (· rfl)) | ((with_reducible refine ed_at ?_ ?_ ?_); (· decide); (· rfl))
  | ((with_reducible refine ed_modI ?_ ?_); (· first | decide | omega))
  | with_reducible exact gives_nx | ((with_reducible refine gives_rt ?_); (· rfl)) | ((with_reducible refine And.intro ?_ ?_); (· exact rfl); (· with_reducible exact Eq.refl (_ : Sx))))
local macro_rules | `(tactic| walk_at "e") => `(tactic| repeat walk_at "e2")
/-- begin a def's spec -/
local macro_rules | `(tactic| walk_at "i") => `(tactic| simp only [initS, List.map_cons, List.map_nil, List.length_cons, List.length_nil, Nat.reduceAdd, Nat.reduceSub, List.replicate, List.cons_append, List.nil_append])
/-- a known truth decides -/
local macro_rules | `(tactic| walk_at "t") => `(tactic| first | ((with_reducible refine split_t ?_ ?_); (· walk_at "sd")) | ((with_reducible refine split_t' ?_ ?_); (· walk_at "sd")))
local macro_rules | `(tactic| walk_at "f") => `(tactic| first | ((with_reducible refine split_f ?_ ?_); (· walk_at "sd")) | ((with_reducible refine split_f' ?_ ?_); (· walk_at "sd")))
/-- all that is seen in a look -/
local macro_rules | `(tactic| walk_at "v") => `(tactic| (rw [sealAll_mk (by (simp only [List.set_cons_zero, List.set_cons_succ, List.map_cons, List.map_nil, sealS_none, sealS_dat, sealS_scr, sealS_own, List.getElem?_cons_zero, List.getElem?_cons_succ, sealC_lst]; rfl)) (by (simp only [List.set_cons_zero, List.set_cons_succ, List.map_cons, List.map_nil]; rfl))]))
open Pt Gr
/-! #### fewest -/
theorem partAt_len (p : Int) (ls : List Ln) (u : Int) : (partAt p ls u).length ≤ ls.length := by
  have := List.length_filter_le (fun i : Nat => decide (clr p ls i = u)) (List.range ls.length)
  rwa [List.length_range] at this
/-! #### the law's own parts -/
end Lw

set_option maxHeartbeats 4000000
namespace Lw
open PySem Fu
local macro_rules | `(tactic| walk_at "e1") => `(tactic| first
  | with_reducible refine eo_seq ?_ | (with_reducible refine then_nx' ?_; refine ⟨?_, ?_, ?_⟩; rotate_left; · (try dsimp only [List.set, List.length_cons, List.length_nil, List.cons_append, List.nil_append, Nat.zero_add, Nat.reduceAdd]); exact rfl) | with_reducible refine then_rt ?_ | with_reducible refine eo_if ?_ | with_reducible refine eo_ret ?_ | with_reducible refine eo_set ?_ | with_reducible refine eo_asg ?_ | with_reducible refine eo_drop ?_ | with_reducible refine eo_nx ?_ | with_reducible refine eo_par ?_ | with_reducible refine eo_own ?_ | with_reducible refine eo_retN ?_ | with_reducible refine eo_for ?_ | with_reducible refine eo_retO ?_
  | with_reducible refine ev_c ?_ | (with_reducible refine ev_var ?_; refine ⟨_, rfl, ?_⟩) | with_reducible refine ev_bin ?_ | with_reducible refine ev_un ?_ | with_reducible refine ev_nil ?_ | with_reducible refine ev_cons ?_
  | with_reducible refine ev_tup ?_ | with_reducible refine ev_lst ?_ | with_reducible refine ev_call ?_ | with_reducible refine ev_callF ?_ | with_reducible refine ev_isi ?_ | with_reducible refine ev_isi2 ?_ | with_reducible refine ev_andV ?_ | with_reducible refine ev_orV ?_ | with_reducible refine ev_notV ?_
  | with_reducible refine ev_B ?_ | with_reducible refine ev_and ?_ | with_reducible refine ev_or ?_ | with_reducible refine ev_not ?_ | with_reducible refine ev_yes ?_ | with_reducible refine ev_if ?_ | with_reducible refine ev_no ?_ | with_reducible refine ev_so ?_ | with_reducible refine ev_sl ?_ | with_reducible refine ev_items ?_
  | (with_reducible refine ev_ixO ?_; refine ⟨_, _, rfl, rfl, ?_⟩) | (with_reducible refine ev_varO ?_; refine ⟨_, _, rfl, rfl, ?_⟩) | (with_reducible refine ev_lenO ?_; refine ⟨_, _, rfl, rfl, ?_⟩) | (with_reducible refine ev_scrSl ?_; refine ⟨_, rfl, ?_⟩) | (with_reducible refine ev_scrLen ?_; refine ⟨_, rfl, ?_⟩) | (with_reducible refine ev_callScr ?_; refine ⟨_, rfl, ?_⟩) | (with_reducible refine ev_OL ?_; refine ⟨_, _, rfl, rfl, ?_⟩) | with_reducible refine ev_OR ?_ | with_reducible refine ev_rep ?_ | with_reducible refine ev_listRng1 ?_ | with_reducible refine eo_setO ?_
  | with_reducible refine es_name ?_ | with_reducible refine es_tup2 ?_ | with_reducible refine es_tup3 ?_
  | with_reducible refine ed_addI ?_ | with_reducible refine ed_subI ?_ | with_reducible refine ed_cmp ?_ | with_reducible refine ed_eqI ?_ | with_reducible refine ed_neI ?_ | with_reducible refine ed_slT ?_ | with_reducible refine ed_slL ?_ | with_reducible refine ed_lenT ?_ | with_reducible refine ed_lenL ?_ | with_reducible refine ed_lenS ?_ | with_reducible refine ed_inS ?_ | with_reducible refine ed_itT ?_ | with_reducible refine ed_itL ?_ | with_reducible refine ed_tupL ?_ | with_reducible refine ed_tupT ?_ | with_reducible refine ed_listL ?_ | with_reducible refine ed_listT ?_ | with_reducible refine ed_neg ?_ | with_reducible refine ed_max ?_ | with_reducible refine ed_min ?_ | with_reducible refine ed_intB ?_
  | with_reducible refine ev_rng1 ?_ | with_reducible refine ev_rng2 ?_)
local macro_rules | `(tactic| walk_at "sd") => `(tactic| first | rfl | assumption | (simp only [decide_eq_true_eq, decide_eq_false_iff_not, Bool.not_eq_true', Bool.not_eq_false', Bool.and_eq_true, Bool.or_eq_true, List.length_map, List.length_cons, List.length_nil, List.length_append, List.length_range] at *; omega))
local macro_rules | `(tactic| walk_at "e2") => `(tactic| first
  | walk_at "e1" | with_reducible refine ⟨_, rfl, ?_⟩ | with_reducible refine ⟨_, _, rfl, ?_⟩
  | with_reducible refine And.intro (Eq.refl (List.length _)) ?_ | with_reducible refine And.intro (Nat.le_of_ble_eq_true (n := List.length _) rfl) ?_
  | with_reducible refine And.intro (Eq.refl (_ : Sx)) (?_ : Ed _ _)
  | ((with_reducible refine And.intro ?_ (And.intro ?_ (?_ : Ev _ _))); (· rfl); (· rfl))
  | ((with_reducible refine ed_ixT ?_ ?_ ?_); (· decide); (· rfl)) | ((with_reducible refine ed_ixL ?_ ?_ ?_); (· decide); (· rfl)) | ((with_reducible refine ed_at ?_ ?_ ?_); (· decide); (· rfl))
  | ((with_reducible refine ed_modI ?_ ?_); (· first | decide | omega))
  | with_reducible exact gives_nx | ((with_reducible refine gives_rt ?_); (· rfl)) | ((with_reducible refine And.intro ?_ ?_); (· exact rfl); (· with_reducible exact Eq.refl (_ : Sx))))
local macro_rules | `(tactic| walk_at "e") => `(tactic| repeat walk_at "e2")
/-- begin a def's spec -/
local macro_rules | `(tactic| walk_at "i") => `(tactic| simp only [initS, List.map_cons, List.map_nil, List.length_cons, List.length_nil, Nat.reduceAdd, Nat.reduceSub, List.replicate, List.cons_append, List.nil_append])
/-- a known truth decides -/
local macro_rules | `(tactic| walk_at "t") => `(tactic| first | ((with_reducible refine split_t ?_ ?_); (· walk_at "sd")) | ((with_reducible refine split_t' ?_ ?_); (· walk_at "sd")))
local macro_rules | `(tactic| walk_at "f") => `(tactic| first | ((with_reducible refine split_f ?_ ?_); (· walk_at "sd")) | ((with_reducible refine split_f' ?_ ?_); (· walk_at "sd")))
/-- all that is seen in a look -/
local macro_rules | `(tactic| walk_at "v") => `(tactic| (rw [sealAll_mk (by (simp only [List.set_cons_zero, List.set_cons_succ, List.map_cons, List.map_nil, sealS_none, sealS_dat, sealS_scr, sealS_own, List.getElem?_cons_zero, List.getElem?_cons_succ, sealC_lst]; rfl)) (by (simp only [List.set_cons_zero, List.set_cons_succ, List.map_cons, List.map_nil]; rfl))]))
open Pt Gr
/-! #### how great the fewest may be -/
end Lw

set_option maxHeartbeats 4000000
namespace Lw
open PySem Fu
local macro_rules | `(tactic| walk_at "e1") => `(tactic| first
  | with_reducible refine eo_seq ?_ | (with_reducible refine then_nx' ?_; refine ⟨?_, ?_, ?_⟩; rotate_left; · (try dsimp only [List.set, List.length_cons, List.length_nil, List.cons_append, List.nil_append, Nat.zero_add, Nat.reduceAdd]); exact rfl) | with_reducible refine then_rt ?_ | with_reducible refine eo_if ?_ | with_reducible refine eo_ret ?_ | with_reducible refine eo_set ?_ | with_reducible refine eo_asg ?_ | with_reducible refine eo_drop ?_ | with_reducible refine eo_nx ?_ | with_reducible refine eo_par ?_ | with_reducible refine eo_own ?_ | with_reducible refine eo_retN ?_ | with_reducible refine eo_for ?_ | with_reducible refine eo_retO ?_
  | with_reducible refine ev_c ?_ | (with_reducible refine ev_var ?_; refine ⟨_, rfl, ?_⟩) | with_reducible refine ev_bin ?_ | with_reducible refine ev_un ?_ | with_reducible refine ev_nil ?_ | with_reducible refine ev_cons ?_
  | with_reducible refine ev_tup ?_ | with_reducible refine ev_lst ?_ | with_reducible refine ev_call ?_ | with_reducible refine ev_callF ?_ | with_reducible refine ev_isi ?_ | with_reducible refine ev_isi2 ?_ | with_reducible refine ev_andV ?_ | with_reducible refine ev_orV ?_ | with_reducible refine ev_notV ?_
  | with_reducible refine ev_B ?_ | with_reducible refine ev_and ?_ | with_reducible refine ev_or ?_ | with_reducible refine ev_not ?_ | with_reducible refine ev_yes ?_ | with_reducible refine ev_if ?_ | with_reducible refine ev_no ?_ | with_reducible refine ev_so ?_ | with_reducible refine ev_sl ?_ | with_reducible refine ev_items ?_
  | (with_reducible refine ev_ixO ?_; refine ⟨_, _, rfl, rfl, ?_⟩) | (with_reducible refine ev_varO ?_; refine ⟨_, _, rfl, rfl, ?_⟩) | (with_reducible refine ev_lenO ?_; refine ⟨_, _, rfl, rfl, ?_⟩) | (with_reducible refine ev_scrSl ?_; refine ⟨_, rfl, ?_⟩) | (with_reducible refine ev_scrLen ?_; refine ⟨_, rfl, ?_⟩) | (with_reducible refine ev_callScr ?_; refine ⟨_, rfl, ?_⟩) | (with_reducible refine ev_OL ?_; refine ⟨_, _, rfl, rfl, ?_⟩) | with_reducible refine ev_OR ?_ | with_reducible refine ev_rep ?_ | with_reducible refine ev_listRng1 ?_ | with_reducible refine eo_setO ?_
  | with_reducible refine es_name ?_ | with_reducible refine es_tup2 ?_ | with_reducible refine es_tup3 ?_
  | with_reducible refine ed_addI ?_ | with_reducible refine ed_subI ?_ | with_reducible refine ed_cmp ?_ | with_reducible refine ed_eqI ?_ | with_reducible refine ed_neI ?_ | with_reducible refine ed_slT ?_ | with_reducible refine ed_slL ?_ | with_reducible refine ed_lenT ?_ | with_reducible refine ed_lenL ?_ | with_reducible refine ed_lenS ?_ | with_reducible refine ed_inS ?_ | with_reducible refine ed_itT ?_ | with_reducible refine ed_itL ?_ | with_reducible refine ed_tupL ?_ | with_reducible refine ed_tupT ?_ | with_reducible refine ed_listL ?_ | with_reducible refine ed_listT ?_ | with_reducible refine ed_neg ?_ | with_reducible refine ed_max ?_ | with_reducible refine ed_min ?_ | with_reducible refine ed_intB ?_
  | with_reducible refine ev_rng1 ?_ | with_reducible refine ev_rng2 ?_)
local macro_rules | `(tactic| walk_at "sd") => `(tactic| first | rfl | assumption | (simp only [decide_eq_true_eq, decide_eq_false_iff_not, Bool.not_eq_true', Bool.not_eq_false', Bool.and_eq_true, Bool.or_eq_true, List.length_map, List.length_cons, List.length_nil, List.length_append, List.length_range] at *; omega))
local macro_rules | `(tactic| walk_at "e2") => `(tactic| first
  | walk_at "e1" | with_reducible refine ⟨_, rfl, ?_⟩ | with_reducible refine ⟨_, _, rfl, ?_⟩
  | with_reducible refine And.intro (Eq.refl (List.length _)) ?_ | with_reducible refine And.intro (Nat.le_of_ble_eq_true (n := List.length _) rfl) ?_
  | with_reducible refine And.intro (Eq.refl (_ : Sx)) (?_ : Ed _ _)
  | ((with_reducible refine And.intro ?_ (And.intro ?_ (?_ : Ev _ _))); (· rfl); (· rfl))
  | ((with_reducible refine ed_ixT ?_ ?_ ?_); (· decide); (· rfl)) | ((with_reducible refine ed_ixL ?_ ?_ ?_); (· decide); (· rfl)) | ((with_reducible refine ed_at ?_ ?_ ?_); (· decide); (· rfl))
  | ((with_reducible refine ed_modI ?_ ?_); (· first | decide | omega))
  | with_reducible exact gives_nx | ((with_reducible refine gives_rt ?_); (· rfl)) | ((with_reducible refine And.intro ?_ ?_); (· exact rfl); (· with_reducible exact Eq.refl (_ : Sx))))
local macro_rules | `(tactic| walk_at "e") => `(tactic| repeat walk_at "e2")
/-- begin a def's spec -/
local macro_rules | `(tactic| walk_at "i") => `(tactic| simp only [initS, List.map_cons, List.map_nil, List.length_cons, List.length_nil, Nat.reduceAdd, Nat.reduceSub, List.replicate, List.cons_append, List.nil_append])
/-- a known truth decides -/
local macro_rules | `(tactic| walk_at "t") => `(tactic| first | ((with_reducible refine split_t ?_ ?_); (· walk_at "sd")) | ((with_reducible refine split_t' ?_ ?_); (· walk_at "sd")))
local macro_rules | `(tactic| walk_at "f") => `(tactic| first | ((with_reducible refine split_f ?_ ?_); (· walk_at "sd")) | ((with_reducible refine split_f' ?_ ?_); (· walk_at "sd")))
/-- all that is seen in a look -/
local macro_rules | `(tactic| walk_at "v") => `(tactic| (rw [sealAll_mk (by (simp only [List.set_cons_zero, List.set_cons_succ, List.map_cons, List.map_nil, sealS_none, sealS_dat, sealS_scr, sealS_own, List.getElem?_cons_zero, List.getElem?_cons_succ, sealC_lst]; rfl)) (by (simp only [List.set_cons_zero, List.set_cons_succ, List.map_cons, List.map_nil]; rfl))]))
open Pt Gr
/-! #### k40: the program's side -/
end Lw

set_option maxHeartbeats 4000000
namespace Lw
open PySem Fu
local macro_rules | `(tactic| walk_at "e1") => `(tactic| first
  | with_reducible refine eo_seq ?_ | (with_reducible refine then_nx' ?_; refine ⟨?_, ?_, ?_⟩; rotate_left; · (try dsimp only [List.set, List.length_cons, List.length_nil, List.cons_append, List.nil_append, Nat.zero_add, Nat.reduceAdd]); exact rfl) | with_reducible refine then_rt ?_ | with_reducible refine eo_if ?_ | with_reducible refine eo_ret ?_ | with_reducible refine eo_set ?_ | with_reducible refine eo_asg ?_ | with_reducible refine eo_drop ?_ | with_reducible refine eo_nx ?_ | with_reducible refine eo_par ?_ | with_reducible refine eo_own ?_ | with_reducible refine eo_retN ?_ | with_reducible refine eo_for ?_ | with_reducible refine eo_retO ?_
  | with_reducible refine ev_c ?_ | (with_reducible refine ev_var ?_; refine ⟨_, rfl, ?_⟩) | with_reducible refine ev_bin ?_ | with_reducible refine ev_un ?_ | with_reducible refine ev_nil ?_ | with_reducible refine ev_cons ?_
  | with_reducible refine ev_tup ?_ | with_reducible refine ev_lst ?_ | with_reducible refine ev_call ?_ | with_reducible refine ev_callF ?_ | with_reducible refine ev_isi ?_ | with_reducible refine ev_isi2 ?_ | with_reducible refine ev_andV ?_ | with_reducible refine ev_orV ?_ | with_reducible refine ev_notV ?_
  | with_reducible refine ev_B ?_ | with_reducible refine ev_and ?_ | with_reducible refine ev_or ?_ | with_reducible refine ev_not ?_ | with_reducible refine ev_yes ?_ | with_reducible refine ev_if ?_ | with_reducible refine ev_no ?_ | with_reducible refine ev_so ?_ | with_reducible refine ev_sl ?_ | with_reducible refine ev_items ?_
  | (with_reducible refine ev_ixO ?_; refine ⟨_, _, rfl, rfl, ?_⟩) | (with_reducible refine ev_varO ?_; refine ⟨_, _, rfl, rfl, ?_⟩) | (with_reducible refine ev_lenO ?_; refine ⟨_, _, rfl, rfl, ?_⟩) | (with_reducible refine ev_scrSl ?_; refine ⟨_, rfl, ?_⟩) | (with_reducible refine ev_scrLen ?_; refine ⟨_, rfl, ?_⟩) | (with_reducible refine ev_callScr ?_; refine ⟨_, rfl, ?_⟩) | (with_reducible refine ev_OL ?_; refine ⟨_, _, rfl, rfl, ?_⟩) | with_reducible refine ev_OR ?_ | with_reducible refine ev_rep ?_ | with_reducible refine ev_listRng1 ?_ | with_reducible refine eo_setO ?_
  | with_reducible refine es_name ?_ | with_reducible refine es_tup2 ?_ | with_reducible refine es_tup3 ?_
  | with_reducible refine ed_addI ?_ | with_reducible refine ed_subI ?_ | with_reducible refine ed_cmp ?_ | with_reducible refine ed_eqI ?_ | with_reducible refine ed_neI ?_ | with_reducible refine ed_slT ?_ | with_reducible refine ed_slL ?_ | with_reducible refine ed_lenT ?_ | with_reducible refine ed_lenL ?_ | with_reducible refine ed_lenS ?_ | with_reducible refine ed_inS ?_ | with_reducible refine ed_itT ?_ | with_reducible refine ed_itL ?_ | with_reducible refine ed_tupL ?_ | with_reducible refine ed_tupT ?_ | with_reducible refine ed_listL ?_ | with_reducible refine ed_listT ?_ | with_reducible refine ed_neg ?_ | with_reducible refine ed_max ?_ | with_reducible refine ed_min ?_ | with_reducible refine ed_intB ?_
  | with_reducible refine ev_rng1 ?_ | with_reducible refine ev_rng2 ?_)
local macro_rules | `(tactic| walk_at "sd") => `(tactic| first | rfl | assumption | (simp only [decide_eq_true_eq, decide_eq_false_iff_not, Bool.not_eq_true', Bool.not_eq_false', Bool.and_eq_true, Bool.or_eq_true, List.length_map, List.length_cons, List.length_nil, List.length_append, List.length_range] at *; omega))
local macro_rules | `(tactic| walk_at "e2") => `(tactic| first
  | walk_at "e1" | with_reducible refine ⟨_, rfl, ?_⟩ | with_reducible refine ⟨_, _, rfl, ?_⟩
  | with_reducible refine And.intro (Eq.refl (List.length _)) ?_ | with_reducible refine And.intro (Nat.le_of_ble_eq_true (n := List.length _) rfl) ?_
  | with_reducible refine And.intro (Eq.refl (_ : Sx)) (?_ : Ed _ _)
  | ((with_reducible refine And.intro ?_ (And.intro ?_ (?_ : Ev _ _))); (· rfl); (· rfl))
  | ((with_reducible refine ed_ixT ?_ ?_ ?_); (· decide); (· rfl)) | ((with_reducible refine ed_ixL ?_ ?_ ?_); (· decide); (· rfl)) | ((with_reducible refine ed_at ?_ ?_ ?_); (· decide); (· rfl))
  | ((with_reducible refine ed_modI ?_ ?_); (· first | decide | omega))
  | with_reducible exact gives_nx | ((with_reducible refine gives_rt ?_); (· rfl)) | ((with_reducible refine And.intro ?_ ?_); (· exact rfl); (· with_reducible exact Eq.refl (_ : Sx))))
local macro_rules | `(tactic| walk_at "e") => `(tactic| repeat walk_at "e2")
/-- begin a def's spec -/
local macro_rules | `(tactic| walk_at "i") => `(tactic| simp only [initS, List.map_cons, List.map_nil, List.length_cons, List.length_nil, Nat.reduceAdd, Nat.reduceSub, List.replicate, List.cons_append, List.nil_append])
/-- a known truth decides -/
local macro_rules | `(tactic| walk_at "t") => `(tactic| first | ((with_reducible refine split_t ?_ ?_); (· walk_at "sd")) | ((with_reducible refine split_t' ?_ ?_); (· walk_at "sd")))
local macro_rules | `(tactic| walk_at "f") => `(tactic| first | ((with_reducible refine split_f ?_ ?_); (· walk_at "sd")) | ((with_reducible refine split_f' ?_ ?_); (· walk_at "sd")))
/-- all that is seen in a look -/
local macro_rules | `(tactic| walk_at "v") => `(tactic| (rw [sealAll_mk (by (simp only [List.set_cons_zero, List.set_cons_succ, List.map_cons, List.map_nil, sealS_none, sealS_dat, sealS_scr, sealS_own, List.getElem?_cons_zero, List.getElem?_cons_succ, sealC_lst]; rfl)) (by (simp only [List.set_cons_zero, List.set_cons_succ, List.map_cons, List.map_nil]; rfl))]))
open Pt Gr
/-! #### k40: the law's side -/
theorem iD_inj : ∀ {a b : List Nat}, a.map iD = b.map iD → a = b
  | [], [], _ => rfl
  | x :: a, y :: b, h => by
    simp only [List.map_cons, List.cons.injEq] at h
    have h1 : (x : Int) = (y : Int) := PyData.int.inj h.1
    rw [show x = y by omega, iD_inj h.2]
theorem eqv_li (a b : List Nat) : PyData.eqv (liD a) (liD b) = decide (a = b) := by
  have g : ∀ a : List Nat, Good 1 (liD a) := fun a => good_list fun d hd => by obtain ⟨i, _, rfl⟩ := List.mem_map.mp hd; exact good_int _
  rw [Bool.eq_iff_iff, decide_eq_true_eq, eqv_plain _ _ (g a).plain (g b).plain]
  constructor
  · intro h
    exact iD_inj (PyData.list.inj h)
  · intro h; rw [h]
theorem ed_notInL {L : List (List Nat)} {part : List Nat} {Q : D → Prop} (q : Q (.bool (decide (part ∉ L)))) : Ed (dNotIn (.list (part.map iD)) (.list (L.map liD))) Q := by
  refine ⟨_, ?_, q⟩
  have f1 : ∀ part : List Nat, Fine 1 (.list (part.map iD)) := fun part => fine_list fine_iD
  dsimp only [dNotIn]
  rw [if_pos ⟨(f1 part).shaped, (fine_list (n := 1) fun d hd => by obtain ⟨n, _, rfl⟩ := List.mem_map.mp hd; exact f1 n).shaped⟩]
  have e : (L.map liD).any (fun y => PyData.eqv y (.list (part.map iD))) = decide (part ∈ L) := by
    rw [Bool.eq_iff_iff, List.any_map, List.any_eq_true, decide_eq_true_eq]
    constructor
    · rintro ⟨u, hu, e⟩
      have e : PyData.eqv (liD u) (liD part) = true := e
      rw [eqv_li, decide_eq_true_eq] at e
      exact e ▸ hu
    · intro hu
      refine ⟨part, hu, ?_⟩
      show PyData.eqv (liD part) (liD part) = true
      rw [eqv_li, decide_eq_true rfl]
  rw [e]
  by_cases z : part ∈ L <;> simp [z]
theorem flat_li (L : List (List Nat)) : (L.map fun a => a.map iD).flatten = L.flatten.map iD := (List.map_flatten (L := L) (f := iD)).symm
theorem ed_sumLi {L : List (List Nat)} {Q : D → Prop} (hz : L.flatten.length ≤ 16777216) (q : Q (liD L.flatten)) : Ed (dSumL [.list (L.map liD), .list []]) Q := by
  refine ⟨_, ?_, q⟩
  have e : L.map liD = (L.map fun a => a.map iD).map PyData.list := by rw [List.map_map]; rfl
  rw [e]
  show (allLists ((L.map fun a => a.map iD).map PyData.list)).bind _ = _
  rw [allLists_of, Option.bind_some, flat_li, if_pos (by rw [List.length_map, sizeLine_eq]; exact hz)]
  rfl
end Lw

set_option maxHeartbeats 4000000
namespace Lw
open PySem Fu
local macro_rules | `(tactic| walk_at "e1") => `(tactic| first
  | with_reducible refine eo_seq ?_ | (with_reducible refine then_nx' ?_; refine ⟨?_, ?_, ?_⟩; rotate_left; · (try dsimp only [List.set, List.length_cons, List.length_nil, List.cons_append, List.nil_append, Nat.zero_add, Nat.reduceAdd]); exact rfl) | with_reducible refine then_rt ?_ | with_reducible refine eo_if ?_ | with_reducible refine eo_ret ?_ | with_reducible refine eo_set ?_ | with_reducible refine eo_asg ?_ | with_reducible refine eo_drop ?_ | with_reducible refine eo_nx ?_ | with_reducible refine eo_par ?_ | with_reducible refine eo_own ?_ | with_reducible refine eo_retN ?_ | with_reducible refine eo_for ?_ | with_reducible refine eo_retO ?_
  | with_reducible refine ev_c ?_ | (with_reducible refine ev_var ?_; refine ⟨_, rfl, ?_⟩) | with_reducible refine ev_bin ?_ | with_reducible refine ev_un ?_ | with_reducible refine ev_nil ?_ | with_reducible refine ev_cons ?_
  | with_reducible refine ev_tup ?_ | with_reducible refine ev_lst ?_ | with_reducible refine ev_call ?_ | with_reducible refine ev_callF ?_ | with_reducible refine ev_isi ?_ | with_reducible refine ev_isi2 ?_ | with_reducible refine ev_andV ?_ | with_reducible refine ev_orV ?_ | with_reducible refine ev_notV ?_
  | with_reducible refine ev_B ?_ | with_reducible refine ev_and ?_ | with_reducible refine ev_or ?_ | with_reducible refine ev_not ?_ | with_reducible refine ev_yes ?_ | with_reducible refine ev_if ?_ | with_reducible refine ev_no ?_ | with_reducible refine ev_so ?_ | with_reducible refine ev_sl ?_ | with_reducible refine ev_items ?_
  | (with_reducible refine ev_ixO ?_; refine ⟨_, _, rfl, rfl, ?_⟩) | (with_reducible refine ev_varO ?_; refine ⟨_, _, rfl, rfl, ?_⟩) | (with_reducible refine ev_lenO ?_; refine ⟨_, _, rfl, rfl, ?_⟩) | (with_reducible refine ev_scrSl ?_; refine ⟨_, rfl, ?_⟩) | (with_reducible refine ev_scrLen ?_; refine ⟨_, rfl, ?_⟩) | (with_reducible refine ev_callScr ?_; refine ⟨_, rfl, ?_⟩) | (with_reducible refine ev_OL ?_; refine ⟨_, _, rfl, rfl, ?_⟩) | with_reducible refine ev_OR ?_ | with_reducible refine ev_rep ?_ | with_reducible refine ev_listRng1 ?_ | with_reducible refine eo_setO ?_
  | with_reducible refine es_name ?_ | with_reducible refine es_tup2 ?_ | with_reducible refine es_tup3 ?_
  | with_reducible refine ed_addI ?_ | with_reducible refine ed_subI ?_ | with_reducible refine ed_cmp ?_ | with_reducible refine ed_eqI ?_ | with_reducible refine ed_neI ?_ | with_reducible refine ed_slT ?_ | with_reducible refine ed_slL ?_ | with_reducible refine ed_lenT ?_ | with_reducible refine ed_lenL ?_ | with_reducible refine ed_lenS ?_ | with_reducible refine ed_inS ?_ | with_reducible refine ed_itT ?_ | with_reducible refine ed_itL ?_ | with_reducible refine ed_tupL ?_ | with_reducible refine ed_tupT ?_ | with_reducible refine ed_listL ?_ | with_reducible refine ed_listT ?_ | with_reducible refine ed_neg ?_ | with_reducible refine ed_max ?_ | with_reducible refine ed_min ?_ | with_reducible refine ed_intB ?_
  | with_reducible refine ev_rng1 ?_ | with_reducible refine ev_rng2 ?_)
local macro_rules | `(tactic| walk_at "sd") => `(tactic| first | rfl | assumption | (simp only [decide_eq_true_eq, decide_eq_false_iff_not, Bool.not_eq_true', Bool.not_eq_false', Bool.and_eq_true, Bool.or_eq_true, List.length_map, List.length_cons, List.length_nil, List.length_append, List.length_range] at *; omega))
local macro_rules | `(tactic| walk_at "e2") => `(tactic| first
  | walk_at "e1" | with_reducible refine ⟨_, rfl, ?_⟩ | with_reducible refine ⟨_, _, rfl, ?_⟩
  | with_reducible refine And.intro (Eq.refl (List.length _)) ?_ | with_reducible refine And.intro (Nat.le_of_ble_eq_true (n := List.length _) rfl) ?_
  | with_reducible refine And.intro (Eq.refl (_ : Sx)) (?_ : Ed _ _)
  | ((with_reducible refine And.intro ?_ (And.intro ?_ (?_ : Ev _ _))); (· rfl); (· rfl))
  | ((with_reducible refine ed_ixT ?_ ?_ ?_); (· decide); (· rfl)) | ((with_reducible refine ed_ixL ?_ ?_ ?_); (· decide); (· rfl)) | ((with_reducible refine ed_at ?_ ?_ ?_); (· decide); (· rfl))
  | ((with_reducible refine ed_modI ?_ ?_); (· first | decide | omega))
  | with_reducible exact gives_nx | ((with_reducible refine gives_rt ?_); (· rfl)) | ((with_reducible refine And.intro ?_ ?_); (· exact rfl); (· with_reducible exact Eq.refl (_ : Sx))))
local macro_rules | `(tactic| walk_at "e") => `(tactic| repeat walk_at "e2")
/-- begin a def's spec -/
local macro_rules | `(tactic| walk_at "i") => `(tactic| simp only [initS, List.map_cons, List.map_nil, List.length_cons, List.length_nil, Nat.reduceAdd, Nat.reduceSub, List.replicate, List.cons_append, List.nil_append])
/-- a known truth decides -/
local macro_rules | `(tactic| walk_at "t") => `(tactic| first | ((with_reducible refine split_t ?_ ?_); (· walk_at "sd")) | ((with_reducible refine split_t' ?_ ?_); (· walk_at "sd")))
local macro_rules | `(tactic| walk_at "f") => `(tactic| first | ((with_reducible refine split_f ?_ ?_); (· walk_at "sd")) | ((with_reducible refine split_f' ?_ ?_); (· walk_at "sd")))
/-- all that is seen in a look -/
local macro_rules | `(tactic| walk_at "v") => `(tactic| (rw [sealAll_mk (by (simp only [List.set_cons_zero, List.set_cons_succ, List.map_cons, List.map_nil, sealS_none, sealS_dat, sealS_scr, sealS_own, List.getElem?_cons_zero, List.getElem?_cons_succ, sealC_lst]; rfl)) (by (simp only [List.set_cons_zero, List.set_cons_succ, List.map_cons, List.map_nil]; rfl))]))
/-! ### the five deeds -/
theorem x_with_line {w : D} {p : Int} {ls : List Ln} {a b : Int} {c : Nat} (hw : Web w p ls) (h : WbOk p ls) (k : LnOk p (a, b, c)) : m_with_line [w, .int a, .int b, ch c] = some (wb p (ls ++ [(a, b, c)])) := by
  unfold m_with_line; refine mF_of ?_; walk_at "i"; unfold g_with_line
  walk_at "e"
  refine Ed.of (x_need_place hw k.a0 k.a1) ?_
  walk_at "e"
  refine Ed.of (x_need_place hw k.b0 k.b1) ?_
  walk_at "e"
  refine Ed.of (x_need_company k.c) ?_
  walk_at "e"
  refine Ed.of (x_kept hw h) ?_
  unfold wb
  walk_at "e"
  refine ed_addT (by have := h.len; simp; omega) ?_
  walk_at "e"
  simp [ln]
theorem x_without_line {w : D} {p : Int} {ls : List Ln} {i : Int} (hw : Web w p ls) (h : WbOk p ls) (i0 : 0 ≤ i) (i1 : i < ls.length) : m_without_line [w, .int i] = some (wb p (ls.take i.toNat ++ ls.drop (i.toNat + 1))) := by
  unfold m_without_line; refine mF_of ?_; walk_at "i"; unfold g_without_line
  walk_at "e"
  refine Ed.of (x_need_line hw i0 i1) ?_
  walk_at "e"
  refine Ed.of (x_kept hw h) ?_
  unfold wb
  walk_at "e"
  rw [cut_to i0, cut_from (by omega)]
  refine ed_addT (by have := h.len; simp; omega) ?_
  walk_at "e"
  have : (i + 1).toNat = i.toNat + 1 := by omega
  simp [this]
theorem x_painted {w : D} {p : Int} {ls : List Ln} {i : Int} {l : Ln} {c : Nat} (hw : Web w p ls) (h : WbOk p ls) (i0 : 0 ≤ i) (e : ls[i.toNat]? = some l) (k : Let c) : m_painted [w, .int i, ch c] = some (wb p (ls.set i.toNat (l.1, l.2.1, c))) := by
  have i1 := (List.getElem?_eq_some_iff.mp e).1
  unfold m_painted; refine mF_of ?_; walk_at "i"; unfold g_painted
  walk_at "e"
  refine Ed.of (x_need_line hw i0 (by omega)) ?_
  walk_at "e"
  refine Ed.of (x_need_company k) ?_
  walk_at "e"
  refine Ed.of (x_kept hw h) ?_
  unfold wb
  walk_at "e"
  refine ed_ixT i0 (by rw [List.getElem?_map, e]; rfl) ?_
  unfold ln
  walk_at "e"
  refine ed_addT (Nat.le_of_ble_eq_true rfl) ?_
  walk_at "e"
  rw [cut_to i0]
  refine ed_addT (by have := h.len; simp; omega) ?_
  walk_at "e"
  rw [cut_from (by omega)]
  refine ed_addT (by have := h.len; simp; omega) ?_
  walk_at "e"
  have : (i + 1).toNat = i.toNat + 1 := by omega
  rw [gives_rtI, this, List.set_eq_take_append_cons_drop, if_pos i1]
  simp [show cutL [PyData.int l.1, PyData.int l.2.1, ch l.2.2] none (some 2) = [.int l.1, .int l.2.1] from rfl]
def mrg (c d : Nat) (l : Ln) : Ln := (l.1, l.2.1, if l.2.2 = c then d else l.2.2)
theorem x_merged {w : D} {p : Int} {ls : List Ln} {c d : Nat} (hw : Web w p ls) (h : WbOk p ls) (kc : Let c) (kd : Let d) : m_merged [w, ch c, ch d] = some (wb p (ls.map (mrg c d))) := by
  unfold m_merged; refine mF_of ?_; walk_at "i"; unfold g_merged
  walk_at "e"
  refine Ed.of (x_need_company kc) ?_
  walk_at "e"
  refine Ed.of (x_need_company kd) ?_
  walk_at "e"
  refine Ed.of (x_kept hw h) ?_
  unfold wb
  walk_at "e"
  refine ev_mapX (xs := ls) (enc := ln) (g := fun l => ln (mrg c d l)) ?_
  walk_at "e"
  refine ⟨rfl, fun l hl => ?_, ?_⟩
  · unfold ln mrg
    walk_at "e"
    refine ed_ixT (by decide) rfl ?_
    walk_at "e"
    refine Ed.of (dEq_ch (h.all l hl).c.ok kc.ok) ?_
    walk_at "e"
    refine ⟨fun ht => ?_, fun ht => ?_⟩
    · walk_at "e"
      refine ed_addT (Nat.le_of_ble_eq_true rfl) ⟨?_, rfl⟩
      rw [if_pos (of_decide_eq_true ht)]; rfl
    · walk_at "e"
      refine ed_ixT (by decide) rfl ?_
      walk_at "e"
      refine ed_addT (Nat.le_of_ble_eq_true rfl) ⟨?_, rfl⟩
      rw [if_neg (of_decide_eq_false ht)]; rfl
  · walk_at "e"
    rw [gives_rtI, List.map_map]
    rfl
def lsn (p s : Int) (l : Ln) : Ln := (if s = 0 then p else l.1, if s = 1 then p else l.2.1, l.2.2)
theorem x_loosened {w d : D} {p : Int} {ls : List Ln} {i s : Int} {l : Ln} (hw : Web w p ls) (h : WbOk p ls) (sd : IsEn d (i, s)) (i0 : 0 ≤ i) (e : ls[i.toNat]? = some l) (s0 : 0 ≤ s) (s1 : s < 2) : m_loosened [w, d] = some (wb (p + 1) (ls.set i.toNat (lsn p s l))) := by
  have i1 := (List.getElem?_eq_some_iff.mp e).1
  unfold m_loosened; refine mF_of ?_; walk_at "i"; unfold g_loosened
  walk_at "e"
  refine Ed.of (x_need_end hw sd ⟨i0, by show i < _; omega, s0, s1⟩) ?_
  unfold en
  walk_at "e"
  refine Ed.of (x_kept hw h) ?_
  unfold wb
  walk_at "e"
  refine ev_map (fun z => match z with | .int k => if k = s then .int p else if k = 0 then .int l.1 else .int l.2.1 | z => z) ?_
  walk_at "e"
  refine ⟨by decide, by decide, fun z hz => ?_, ?_⟩
  · rw [show rng 0 (Int.toNat 2) = [.int 0, .int 1] from rfl] at hz
    simp only [List.mem_cons, List.not_mem_nil, or_false] at hz
    rcases hz with rfl | rfl
    · walk_at "e"
      refine ⟨fun ht => ?_, fun ht => ?_⟩
      · walk_at "e"
        exact ⟨by simp [of_decide_eq_true ht], rfl⟩
      · walk_at "e"
        refine ed_ixT i0 (by rw [List.getElem?_map, e]; rfl) ?_
        unfold ln
        walk_at "e"
        refine ed_ixT (by decide) rfl ?_
        simp [of_decide_eq_false ht]
    · walk_at "e"
      refine ⟨fun ht => ?_, fun ht => ?_⟩
      · walk_at "e"
        exact ⟨by simp [of_decide_eq_true ht], rfl⟩
      · walk_at "e"
        refine ed_ixT i0 (by rw [List.getElem?_map, e]; rfl) ?_
        unfold ln
        walk_at "e"
        refine ed_ixT (by decide) rfl ?_
        simp [of_decide_eq_false ht]
  · rw [show rng 0 (Int.toNat 2) = [.int 0, .int 1] from rfl]
    walk_at "e"
    refine ed_ixL (by decide) rfl ?_
    walk_at "e"
    refine ed_ixL (by decide) rfl ?_
    walk_at "e"
    refine ed_ixT i0 (by rw [List.getElem?_map, e]; rfl) ?_
    walk_at "e"
    show Ed (dIx (.tuple [.int l.1, .int l.2.1, ch l.2.2]) _) _
    refine ed_ixT (by decide) rfl ?_
    walk_at "e"
    rw [cut_to i0]
    refine ed_addT (by have := h.len; simp; omega) ?_
    walk_at "e"
    rw [cut_from (by omega)]
    refine ed_addT (by have := h.len; simp; omega) ?_
    walk_at "e"
    have : (i + 1).toNat = i.toNat + 1 := by omega
    rw [gives_rtI, this, List.set_eq_take_append_cons_drop, if_pos i1]
    simp only [List.map_append, List.map_cons, List.map_take, List.map_drop, List.append_assoc, List.cons_append, List.nil_append]
    congr 5
    unfold ln lsn
    have : s = 0 ∨ s = 1 := by omega
    rcases this with rfl | rfl <;> simp
theorem wbok_app {p : Int} {ls : List Ln} {l : Ln} (h : WbOk p ls) (k : LnOk p l) (hl : ls.length < 1000000) : WbOk p (ls ++ [l]) := ⟨h.p0, fun x hx => by
  rcases List.mem_append.mp hx with hx | hx
  · exact h.all x hx
  · rw [List.mem_singleton.mp hx]; exact k, by simp; omega⟩
end Lw

set_option maxHeartbeats 4000000
namespace Lw
open PySem Fu
local macro_rules | `(tactic| walk_at "e1") => `(tactic| first
  | with_reducible refine eo_seq ?_ | (with_reducible refine then_nx' ?_; refine ⟨?_, ?_, ?_⟩; rotate_left; · (try dsimp only [List.set, List.length_cons, List.length_nil, List.cons_append, List.nil_append, Nat.zero_add, Nat.reduceAdd]); exact rfl) | with_reducible refine then_rt ?_ | with_reducible refine eo_if ?_ | with_reducible refine eo_ret ?_ | with_reducible refine eo_set ?_ | with_reducible refine eo_asg ?_ | with_reducible refine eo_drop ?_ | with_reducible refine eo_nx ?_ | with_reducible refine eo_par ?_ | with_reducible refine eo_own ?_ | with_reducible refine eo_retN ?_ | with_reducible refine eo_for ?_ | with_reducible refine eo_retO ?_
  | with_reducible refine ev_c ?_ | (with_reducible refine ev_var ?_; refine ⟨_, rfl, ?_⟩) | with_reducible refine ev_bin ?_ | with_reducible refine ev_un ?_ | with_reducible refine ev_nil ?_ | with_reducible refine ev_cons ?_
  | with_reducible refine ev_tup ?_ | with_reducible refine ev_lst ?_ | with_reducible refine ev_call ?_ | with_reducible refine ev_callF ?_ | with_reducible refine ev_isi ?_ | with_reducible refine ev_isi2 ?_ | with_reducible refine ev_andV ?_ | with_reducible refine ev_orV ?_ | with_reducible refine ev_notV ?_
  | with_reducible refine ev_B ?_ | with_reducible refine ev_and ?_ | with_reducible refine ev_or ?_ | with_reducible refine ev_not ?_ | with_reducible refine ev_yes ?_ | with_reducible refine ev_if ?_ | with_reducible refine ev_no ?_ | with_reducible refine ev_so ?_ | with_reducible refine ev_sl ?_ | with_reducible refine ev_items ?_
  | (with_reducible refine ev_ixO ?_; refine ⟨_, _, rfl, rfl, ?_⟩) | (with_reducible refine ev_varO ?_; refine ⟨_, _, rfl, rfl, ?_⟩) | (with_reducible refine ev_lenO ?_; refine ⟨_, _, rfl, rfl, ?_⟩) | (with_reducible refine ev_scrSl ?_; refine ⟨_, rfl, ?_⟩) | (with_reducible refine ev_scrLen ?_; refine ⟨_, rfl, ?_⟩) | (with_reducible refine ev_callScr ?_; refine ⟨_, rfl, ?_⟩) | (with_reducible refine ev_OL ?_; refine ⟨_, _, rfl, rfl, ?_⟩) | with_reducible refine ev_OR ?_ | with_reducible refine ev_rep ?_ | with_reducible refine ev_listRng1 ?_ | with_reducible refine eo_setO ?_
  | with_reducible refine es_name ?_ | with_reducible refine es_tup2 ?_ | with_reducible refine es_tup3 ?_
  | with_reducible refine ed_addI ?_ | with_reducible refine ed_subI ?_ | with_reducible refine ed_cmp ?_ | with_reducible refine ed_eqI ?_ | with_reducible refine ed_neI ?_ | with_reducible refine ed_slT ?_ | with_reducible refine ed_slL ?_ | with_reducible refine ed_lenT ?_ | with_reducible refine ed_lenL ?_ | with_reducible refine ed_lenS ?_ | with_reducible refine ed_inS ?_ | with_reducible refine ed_itT ?_ | with_reducible refine ed_itL ?_ | with_reducible refine ed_tupL ?_ | with_reducible refine ed_tupT ?_ | with_reducible refine ed_listL ?_ | with_reducible refine ed_listT ?_ | with_reducible refine ed_neg ?_ | with_reducible refine ed_max ?_ | with_reducible refine ed_min ?_ | with_reducible refine ed_intB ?_)
local macro_rules | `(tactic| walk_at "e2") => `(tactic| first
  | walk_at "e1" | with_reducible refine ⟨_, rfl, ?_⟩ | with_reducible refine ⟨_, _, rfl, ?_⟩
  | with_reducible refine And.intro (Eq.refl (List.length _)) ?_ | with_reducible refine And.intro (Nat.le_of_ble_eq_true (n := List.length _) rfl) ?_
  | with_reducible refine And.intro (Eq.refl (_ : Sx)) (?_ : Ed _ _)
  | with_reducible exact gives_nx | with_reducible (refine gives_rt ?_; rfl))
local macro_rules | `(tactic| walk_at "e") => `(tactic| repeat walk_at "e2")
/-- begin a def's spec -/
local macro_rules | `(tactic| walk_at "i") => `(tactic| simp only [initS, List.map_cons, List.map_nil, List.length_cons, List.length_nil, Nat.reduceAdd, Nat.reduceSub, List.replicate, List.cons_append, List.nil_append])
namespace Rl
/-! ### the reel -/
def iLs (xs : List Int) : List D := xs.map PyData.int
structure Reel (b : Nat) (cs : List D) : Prop where
  ex : ∃ (great cells : List Int) (n stir : Int), cs = [.list (iLs great), .list (iLs cells), .int n, .int stir] ∧ (∀ g ∈ great, 0 ≤ g) ∧ great.length ≤ 63 ∧ 0 < cells.length ∧ cells.length ≤ 64 ∧ (∀ c ∈ cells, 0 ≤ c ∧ c < 1000003) ∧ 0 ≤ n ∧ n + b ≤ 10000000000000000000000000000000 ∧ 0 ≤ stir ∧ stir < 170141183460469231731687303715884105728
theorem Reel.mono {a b : Nat} {cs : List D} (h : Reel a cs) (l : b ≤ a) : Reel b cs := by
  obtain ⟨g, c, n, s, h1, h2, h3, h4, h5, h6, h7, h8, h9⟩ := h
  exact ⟨g, c, n, s, h1, h2, h3, h4, h5, h6, h7, by omega, h9⟩
theorem mulW {i j : Int} (a : -170141183460469231731687303715884105728 < i ∧ i < 170141183460469231731687303715884105728) (b : -170141183460469231731687303715884105728 < j ∧ j < 170141183460469231731687303715884105728) : L2.CMulW i j := Sp.mulW a b
theorem divW {i j : Int} (a : 0 < j ∧ j < 170141183460469231731687303715884105728) : L2.CDivW i j := Sp.divW a
theorem good_iLs (xs : List Int) : Good 1 (.list (iLs xs)) := good_list fun d hd => by
  obtain ⟨i, _, rfl⟩ := List.mem_map.mp hd
  exact good_int i
theorem x_draw {b : Nat} {cs : List D} {many : Int} (h : Reel (b + 1) cs) (m0 : 0 < many) (m1 : many ≤ 10000000000000000000000000000000) : ∃ d cs', m__law_draw cs [.int many] = some (d, cs') ∧ ∃ v, d = .int v ∧ 0 ≤ v ∧ v < many ∧ Reel b cs' := by
  obtain ⟨great, cells, n, stir, rfl, hg, hgl, hc0, hcl, hc, n0, n1, s0, s1⟩ := h
  unfold m__law_draw; refine mIO_of ?_; walk_at "i"; unfold g__law_draw
  walk_at "e"
  refine ed_at (by decide) rfl ?_
  walk_at "e"
  refine Ed.of (dNe_good (good_iLs great) (good_list_le (n := 1) (m := 0) (ds := []) (fun _ h => nomatch h) (by decide))) ?_
  walk_at "e"
  cases great with
  | cons g gs =>
    refine split_t (by simp [iLs]) ?_
    walk_at "e"
    refine ed_at (by decide) rfl ?_
    walk_at "e"
    refine ed_ixL (by decide) rfl ?_
    walk_at "e"
    refine ed_divI (divW ⟨m0, by omega⟩) ?_
    walk_at "e"
    refine ed_repB (Nat.le_of_ble_eq_true rfl) ?_
    walk_at "e"
    refine ed_at (by decide) rfl ?_
    walk_at "e"
    rw [cut_from (by decide)]
    have hlen : ((if (decide (many ≤ g)) = true then [PyData.int (g / many)] else [])).length ≤ 1 := by split <;> simp
    refine ed_addL (by
      have : gs.length ≤ 62 := by simpa using hgl
      simp only [iLs, List.map_cons, List.length_drop, List.length_cons, List.length_map] at hlen ⊢
      omega) ?_
    walk_at "e"
    refine ⟨0, _, rfl, rfl, ?_⟩
    walk_at "e"
    refine ⟨rfl, 0, rfl, by simp, ?_⟩
    walk_at "e"
    refine ed_modI m0 ?_
    refine ⟨_, rfl, _, rfl, Int.emod_nonneg _ (by omega), Int.emod_lt_of_pos _ m0, ?_⟩
    have hg0 := hg g List.mem_cons_self
    have hq : 0 ≤ g / many := Int.ediv_nonneg hg0 (by omega)
    refine ⟨(if (decide (many ≤ g)) = true then [g / many] else []) ++ gs, cells, n, stir, ?_, ?_, ?_, hc0, hcl, hc, n0, by omega, s0, s1⟩
    · simp only [List.set_cons_zero, iLs, List.map_append]
      congr 3
      split <;> simp
    · intro x hx
      rcases List.mem_append.mp hx with hx | hx
      · split at hx
        · rw [List.mem_singleton.mp hx]; exact hq
        · exact nomatch hx
      · exact hg x (List.mem_cons_of_mem _ hx)
    · have : gs.length ≤ 62 := by simpa using hgl
      have h2 : ((if (decide (many ≤ g)) = true then [g / many] else [])).length ≤ 1 := by split <;> simp
      rw [List.length_append]; omega
  | nil =>
    refine split_f (by simp [iLs]) ?_
    walk_at "e"
    refine ed_at (by decide) rfl ?_
    walk_at "e"
    refine ⟨0, _, rfl, rfl, ?_⟩
    walk_at "e"
    refine ⟨rfl, 2, rfl, by simp, ?_⟩
    walk_at "e"
    refine ed_at (by decide) rfl ?_
    walk_at "e"
    refine ed_at (by decide) rfl ?_
    walk_at "e"
    refine ed_at (by decide) rfl ?_
    walk_at "e"
    have hc0' : (0 : Int) < ((iLs cells).length : Int) := by simp [iLs]; omega
    refine ed_modI hc0' ?_
    have hi0 := Int.emod_nonneg (n + 1) (show ((iLs cells).length : Int) ≠ 0 by omega)
    have hi1 := Int.emod_lt_of_pos (n + 1) hc0'
    have hcl2 : (iLs cells).length = cells.length := by simp [iLs]
    have hk : ((n + 1) % ((iLs cells).length : Int)).toNat < cells.length := by omega
    have hm := hc _ (List.getElem_mem hk)
    refine ed_ixL hi0 (by
      unfold iLs
      rw [List.getElem?_map, show (List.map PyData.int cells).length = (iLs cells).length from rfl, List.getElem?_eq_getElem hk]; rfl) ?_
    generalize hv : cells[((n + 1) % ((iLs cells).length : Int)).toNat] = told at hm ⊢
    walk_at "e"
    refine ed_at (by decide) rfl ?_
    walk_at "e"
    refine ed_at (by decide) rfl ?_
    walk_at "e"
    refine ed_mulI (mulW ⟨by omega, s1⟩ ⟨by omega, s1⟩) ?_
    walk_at "e"
    refine ed_mulI (mulW ⟨by omega, by omega⟩ ⟨by decide, by decide⟩) ?_
    walk_at "e"
    refine ed_at (by decide) rfl ?_
    walk_at "e"
    refine ed_mulI (mulW ⟨by omega, by omega⟩ ⟨by decide, by decide⟩) ?_
    walk_at "e"
    refine ed_powI (by decide) ?_
    walk_at "e"
    refine ed_powI (by decide) ?_
    refine ed_mulI (by decide) ?_
    walk_at "e"
    refine ed_modI (by decide) ?_
    refine ⟨0, _, rfl, rfl, ?_⟩
    walk_at "e"
    refine ⟨rfl, 3, rfl, by simp, ?_⟩
    walk_at "e"
    refine ed_at (by decide) rfl ?_
    walk_at "e"
    refine ed_powI (by decide) ?_
    refine ed_divI (divW ⟨by decide, by decide⟩) ?_
    walk_at "e"
    refine ed_modI m0 ?_
    refine ⟨_, rfl, _, rfl, Int.emod_nonneg _ (by omega), Int.emod_lt_of_pos _ m0, ?_⟩
    refine ⟨[], cells, n + 1, _, rfl, (fun _ h => nomatch h), by simp, hc0, hcl, hc, by omega, by omega, Int.emod_nonneg _ (by decide), ?_⟩
    refine Int.lt_of_lt_of_le (Int.emod_lt_of_pos _ (by decide)) (by decide)
theorem x_reel {ns : List Int} (h : ns.length ≤ 63) : ∃ cs, m__law_reel ns = some cs ∧ Reel 4294967296 cs := by
  unfold m__law_reel; refine mScrN_of ?_; walk_at "i"; unfold g__law_reel
  walk_at "e"
  refine ed_powI (by decide) ?_
  walk_at "e"
  rw [cut_to (by decide), List.take_of_length_le (by simpa using h)]
  refine eo_loop (fun i S => ∃ st x, S = ⟨[some (.scr ns), some (.dat (.int st)), x, none], []⟩ ∧ 0 ≤ st ∧ st < 170141183460469231731687303715884105727) ⟨_, _, rfl, by decide, by decide⟩ ?_ ?_
  · rintro i d S hd ⟨st, x, rfl, h0, h1⟩
    obtain ⟨c, hc, rfl⟩ := List.mem_map.mp (List.mem_of_getElem? hd)
    walk_at "e"
    refine ed_mulI (mulW ⟨by omega, by omega⟩ ⟨by omega, by omega⟩) ?_
    walk_at "e"
    refine ed_modI (by decide) ?_
    walk_at "e"
    refine ed_powI (by decide) ?_
    walk_at "e"
    refine ed_powI (by decide) ?_
    refine ed_mulI (by decide) ?_
    walk_at "e"
    refine ed_modI (by decide) ?_
    refine ⟨_, rfl, _, _, rfl, Int.emod_nonneg _ (by decide), Int.lt_of_lt_of_le (Int.emod_lt_of_pos _ (by decide)) (by decide)⟩
  · rintro S ⟨st, x, rfl, h0, h1⟩
    walk_at "e"
    refine ev_lc (fun d => match d with | .int i => decide (1000000000000000000 ≤ i) | _ => false) (fun d => match d with | .int i => .int (i - 1000000000000000000) | d => d) ?_
    walk_at "e"
    rw [cut_to (by decide), List.take_of_length_le (by simpa using h)]
    refine ⟨fun d hd => ?_, ?_⟩
    · obtain ⟨c, hc, rfl⟩ := List.mem_map.mp hd
      walk_at "e"
      refine ⟨rfl, rfl, ?_⟩
      walk_at "e"
      refine ed_powI (by decide) ?_
      walk_at "e"
      refine ⟨rfl, rfl, fun _ => ?_⟩
      walk_at "e"
      refine ed_powI (by decide) ?_
      walk_at "e"
      exact ⟨rfl, rfl⟩
    · walk_at "e"
      refine ev_map (fun d => match d with | .int i => .int (i % 1000003) | d => d) ?_
      walk_at "e"
      rw [cut_to (by decide), List.take_of_length_le (by simpa using h)]
      refine ⟨fun d hd => ?_, ?_⟩
      · obtain ⟨c, hc, rfl⟩ := List.mem_map.mp hd
        walk_at "e"
        refine ⟨rfl, rfl, ?_⟩
        walk_at "e"
        refine ed_modI (by decide) ?_
        exact ⟨rfl, rfl⟩
      · walk_at "e"
        refine ed_addL (by simp; omega) ?_
        walk_at "e"
        refine ⟨_, _, _, rfl, rfl, ?_⟩
        refine ⟨(ns.filter fun i => decide (1000000000000000000 ≤ i)).map (· - 1000000000000000000), ns.map (· % 1000003) ++ [41], 0, st, ?_, ?_, ?_, by simp, by simp; omega, ?_, by decide, by decide, h0, by omega⟩
        · congr 2
          · unfold iLs
            rw [List.filter_map, List.map_map, List.map_map]
            rfl
          · congr 2
            unfold iLs
            rw [List.map_append, List.map_map, List.map_map]
            rfl
        · intro g hg
          obtain ⟨i, hi, rfl⟩ := List.mem_map.mp hg
          have := of_decide_eq_true (List.mem_filter.mp hi).2
          omega
        · rw [List.length_map]
          exact Nat.le_trans (List.length_filter_le _ _) h
        · intro c hc
          rcases List.mem_append.mp hc with hc | hc
          · obtain ⟨i, hi, rfl⟩ := List.mem_map.mp hc
            exact ⟨Int.emod_nonneg _ (by decide), Int.emod_lt_of_pos _ (by decide)⟩
          · rw [List.mem_singleton.mp hc]; exact ⟨by decide, by decide⟩
theorem ev_drawL {sl : List (Option R)} {os : List (Option Cell)} {i : Nat} {g : M (List D)} {Q : D → Sx → Prop}
    (h : ∃ j, sl[i]? = some (some (.own j)) ∧ Ev (g ⟨sl, os⟩) fun ds S1 => ∃ cs many c, S1.os[j]? = some (some (.lst cs)) ∧ ds = [.int many] ∧ Reel c cs ∧ 1 ≤ c ∧ 0 < many ∧ many ≤ 10000000000000000000000000000000 ∧ ∀ v cs', 0 ≤ v → v < many → Reel (c - 1) cs' → Q (.int v) ⟨S1.sl, S1.os.set j (some (.lst cs'))⟩) : Ev (gIO i 1 m__law_draw g ⟨sl, os⟩) Q := by
  obtain ⟨j, hi, h⟩ := h
  refine ev_IO ⟨j, hi, h.mono ?_⟩
  rintro ds S1 ⟨cs, many, c, hc, rfl, hR, c1, m0, m1, h⟩
  obtain ⟨d, cs', e, v, rfl, v0, v1, hR'⟩ := x_draw (b := c - 1) (hR.mono (by omega)) m0 m1
  exact ⟨cs, hc, rfl, _, cs', e, h v cs' v0 v1 hR'⟩
end Rl
end Lw

set_option maxHeartbeats 4000000
namespace Lw
open PySem Fu
local macro_rules | `(tactic| walk_at "e1") => `(tactic| first
  | with_reducible refine eo_seq ?_ | (with_reducible refine then_nx' ?_; refine ⟨?_, ?_, ?_⟩; rotate_left; · (try dsimp only [List.set, List.length_cons, List.length_nil, List.cons_append, List.nil_append, Nat.zero_add, Nat.reduceAdd]); exact rfl) | with_reducible refine then_rt ?_ | with_reducible refine eo_if ?_ | with_reducible refine eo_ret ?_ | with_reducible refine eo_set ?_ | with_reducible refine eo_asg ?_ | with_reducible refine eo_drop ?_ | with_reducible refine eo_nx ?_ | with_reducible refine eo_par ?_ | with_reducible refine eo_own ?_ | with_reducible refine eo_retN ?_ | with_reducible refine eo_for ?_ | with_reducible refine eo_retO ?_
  | with_reducible refine ev_c ?_ | (with_reducible refine ev_var ?_; refine ⟨_, rfl, ?_⟩) | with_reducible refine ev_bin ?_ | with_reducible refine ev_un ?_ | with_reducible refine ev_nil ?_ | with_reducible refine ev_cons ?_
  | with_reducible refine ev_tup ?_ | with_reducible refine ev_lst ?_ | with_reducible refine ev_call ?_ | with_reducible refine ev_callF ?_ | with_reducible refine ev_isi ?_ | with_reducible refine ev_isi2 ?_ | with_reducible refine ev_andV ?_ | with_reducible refine ev_orV ?_ | with_reducible refine ev_notV ?_
  | with_reducible refine ev_B ?_ | with_reducible refine ev_and ?_ | with_reducible refine ev_or ?_ | with_reducible refine ev_not ?_ | with_reducible refine ev_yes ?_ | with_reducible refine ev_if ?_ | with_reducible refine ev_no ?_ | with_reducible refine ev_so ?_ | with_reducible refine ev_sl ?_ | with_reducible refine ev_items ?_
  | (with_reducible refine ev_ixO ?_; refine ⟨_, _, rfl, rfl, ?_⟩) | (with_reducible refine ev_varO ?_; refine ⟨_, _, rfl, rfl, ?_⟩) | (with_reducible refine ev_lenO ?_; refine ⟨_, _, rfl, rfl, ?_⟩) | (with_reducible refine ev_scrSl ?_; refine ⟨_, rfl, ?_⟩) | (with_reducible refine ev_scrLen ?_; refine ⟨_, rfl, ?_⟩) | (with_reducible refine ev_callScr ?_; refine ⟨_, rfl, ?_⟩) | (with_reducible refine ev_OL ?_; refine ⟨_, _, rfl, rfl, ?_⟩) | with_reducible refine ev_OR ?_ | with_reducible refine ev_rep ?_ | with_reducible refine ev_listRng1 ?_ | with_reducible refine eo_setO ?_
  | with_reducible refine es_name ?_ | with_reducible refine es_tup2 ?_ | with_reducible refine es_tup3 ?_
  | with_reducible refine ed_addI ?_ | with_reducible refine ed_subI ?_ | with_reducible refine ed_cmp ?_ | with_reducible refine ed_eqI ?_ | with_reducible refine ed_neI ?_ | with_reducible refine ed_slT ?_ | with_reducible refine ed_slL ?_ | with_reducible refine ed_lenT ?_ | with_reducible refine ed_lenL ?_ | with_reducible refine ed_lenS ?_ | with_reducible refine ed_inS ?_ | with_reducible refine ed_itT ?_ | with_reducible refine ed_itL ?_ | with_reducible refine ed_tupL ?_ | with_reducible refine ed_tupT ?_ | with_reducible refine ed_listL ?_ | with_reducible refine ed_listT ?_ | with_reducible refine ed_neg ?_ | with_reducible refine ed_max ?_ | with_reducible refine ed_min ?_ | with_reducible refine ed_intB ?_
  | with_reducible refine ev_rng1 ?_ | with_reducible refine ev_rng2 ?_)
local macro_rules | `(tactic| walk_at "sd") => `(tactic| first | rfl | assumption | (simp only [decide_eq_true_eq, decide_eq_false_iff_not, Bool.not_eq_true', Bool.not_eq_false', Bool.and_eq_true, Bool.or_eq_true, List.length_map, List.length_cons, List.length_nil, List.length_append, List.length_range] at *; omega))
local macro_rules | `(tactic| walk_at "e2") => `(tactic| first
  | walk_at "e1" | with_reducible refine ⟨_, rfl, ?_⟩ | with_reducible refine ⟨_, _, rfl, ?_⟩
  | with_reducible refine And.intro (Eq.refl (List.length _)) ?_ | with_reducible refine And.intro (Nat.le_of_ble_eq_true (n := List.length _) rfl) ?_
  | with_reducible refine And.intro (Eq.refl (_ : Sx)) (?_ : Ed _ _)
  | ((with_reducible refine And.intro ?_ (And.intro ?_ (?_ : Ev _ _))); (· rfl); (· rfl))
  | ((with_reducible refine ed_ixT ?_ ?_ ?_); (· decide); (· rfl)) | ((with_reducible refine ed_ixL ?_ ?_ ?_); (· decide); (· rfl)) | ((with_reducible refine ed_at ?_ ?_ ?_); (· decide); (· rfl))
  | ((with_reducible refine ed_modI ?_ ?_); (· first | decide | omega))
  | with_reducible exact gives_nx | ((with_reducible refine gives_rt ?_); (· rfl)) | ((with_reducible refine And.intro ?_ ?_); (· exact rfl); (· with_reducible exact Eq.refl (_ : Sx))))
local macro_rules | `(tactic| walk_at "e") => `(tactic| repeat walk_at "e2")
/-- begin a def's spec -/
local macro_rules | `(tactic| walk_at "i") => `(tactic| simp only [initS, List.map_cons, List.map_nil, List.length_cons, List.length_nil, Nat.reduceAdd, Nat.reduceSub, List.replicate, List.cons_append, List.nil_append])
/-- a known truth decides -/
local macro_rules | `(tactic| walk_at "t") => `(tactic| first | ((with_reducible refine split_t ?_ ?_); (· walk_at "sd")) | ((with_reducible refine split_t' ?_ ?_); (· walk_at "sd")))
local macro_rules | `(tactic| walk_at "f") => `(tactic| first | ((with_reducible refine split_f ?_ ?_); (· walk_at "sd")) | ((with_reducible refine split_f' ?_ ?_); (· walk_at "sd")))
/-- all that is seen in a look -/
local macro_rules | `(tactic| walk_at "v") => `(tactic| (rw [sealAll_mk (by (simp only [List.set_cons_zero, List.set_cons_succ, List.map_cons, List.map_nil, sealS_none, sealS_dat, sealS_scr, sealS_own, List.getElem?_cons_zero, List.getElem?_cons_succ, sealC_lst]; rfl)) (by (simp only [List.set_cons_zero, List.set_cons_succ, List.map_cons, List.map_nil]; rfl))]))
theorem ed_ixLx {xs : List D} {i : Int} {Q : D → Prop} (h : ∃ d, 0 ≤ i ∧ xs[i.toNat]? = some d ∧ Q d) : Ed (dIx (.list xs) (.int i)) Q := by
  obtain ⟨d, h0, e, q⟩ := h
  exact ed_ixL h0 e q
theorem ed_ixTx {xs : List D} {i : Int} {Q : D → Prop} (h : ∃ d, 0 ≤ i ∧ xs[i.toNat]? = some d ∧ Q d) : Ed (dIx (.tuple xs) (.int i)) Q := by
  obtain ⟨d, h0, e, q⟩ := h
  exact ed_ixT h0 e q
theorem es_star {i j : Nat} {d : D} {ds : List D} {S : Sx} {W : Sx → Prop} (h : W ⟨(S.sl.set i (some (.dat d))).set j (some (.dat (.list ds))), S.os⟩) : Es (sStar1 (sCons (sName i) (sCons (sName j) sNil)) (.list (d :: ds)) S) W := ⟨_, rfl, h⟩
theorem ed_dneSelf {x : Str} {Q : D → Prop} (q : Q (.bool false)) : Ed (dNe (.str x) (.str x)) Q := ⟨_, dNe_str_self x, q⟩
theorem ed_deqSelf {x : Str} {Q : D → Prop} (q : Q (.bool true)) : Ed (dEq (.str x) (.str x)) Q := ⟨_, dEq_str_self x, q⟩
section
variable {P R : Prop}
theorem an_tt (h : P) : (true = true → P) ∧ (true = false → R) := ⟨fun _ => h, fun z => (nomatch z)⟩
theorem an_ft (h : P) : (false = true → R) ∧ (false = false → P) := ⟨fun z => (nomatch z), fun _ => h⟩
theorem an_tf (h : P) : (true = false → R) ∧ (true = true → P) := ⟨fun z => (nomatch z), fun _ => h⟩
theorem an_ff (h : P) : (false = false → P) ∧ (false = true → R) := ⟨fun _ => h, fun z => (nomatch z)⟩
theorem an_ntt (h : P) : ((!true) = true → R) ∧ ((!true) = false → P) := ⟨fun z => absurd z (by decide), fun _ => h⟩
theorem an_nft (h : P) : ((!false) = true → P) ∧ ((!false) = false → R) := ⟨fun _ => h, fun z => absurd z (by decide)⟩
theorem an_ntf (h : P) : ((!true) = false → P) ∧ ((!true) = true → R) := ⟨fun _ => h, fun z => absurd z (by decide)⟩
theorem an_nff (h : P) : ((!false) = false → R) ∧ ((!false) = true → P) := ⟨fun z => absurd z (by decide), fun _ => h⟩
end
end Lw

set_option maxHeartbeats 4000000
namespace Lw
open PySem Fu
local macro_rules | `(tactic| walk_at "e1") => `(tactic| first
  | with_reducible refine eo_seq ?_ | (with_reducible refine then_nx' ?_; refine ⟨?_, ?_, ?_⟩; rotate_left; · (try dsimp only [List.set, List.length_cons, List.length_nil, List.cons_append, List.nil_append, Nat.zero_add, Nat.reduceAdd]); exact rfl) | with_reducible refine then_rt ?_ | with_reducible refine eo_if ?_ | with_reducible refine eo_ret ?_ | with_reducible refine eo_set ?_ | with_reducible refine eo_asg ?_ | with_reducible refine eo_drop ?_ | with_reducible refine eo_nx ?_ | with_reducible refine eo_par ?_ | with_reducible refine eo_own ?_ | with_reducible refine eo_retN ?_ | with_reducible refine eo_for ?_ | with_reducible refine eo_retO ?_
  | with_reducible refine ev_c ?_ | (with_reducible refine ev_var ?_; refine ⟨_, rfl, ?_⟩) | with_reducible refine ev_bin ?_ | with_reducible refine ev_un ?_ | with_reducible refine ev_nil ?_ | with_reducible refine ev_cons ?_
  | with_reducible refine ev_tup ?_ | with_reducible refine ev_lst ?_ | with_reducible refine ev_call ?_ | with_reducible refine ev_callF ?_ | with_reducible refine ev_isi ?_ | with_reducible refine ev_isi2 ?_ | with_reducible refine ev_andV ?_ | with_reducible refine ev_orV ?_ | with_reducible refine ev_notV ?_
  | with_reducible refine ev_B ?_ | with_reducible refine ev_and ?_ | with_reducible refine ev_or ?_ | with_reducible refine ev_not ?_ | with_reducible refine ev_yes ?_ | with_reducible refine ev_if ?_ | with_reducible refine ev_no ?_ | with_reducible refine ev_so ?_ | with_reducible refine ev_sl ?_ | with_reducible refine ev_items ?_
  | (with_reducible refine ev_ixO ?_; refine ⟨_, _, rfl, rfl, ?_⟩) | (with_reducible refine ev_varO ?_; refine ⟨_, _, rfl, rfl, ?_⟩) | (with_reducible refine ev_lenO ?_; refine ⟨_, _, rfl, rfl, ?_⟩) | (with_reducible refine ev_scrSl ?_; refine ⟨_, rfl, ?_⟩) | (with_reducible refine ev_scrLen ?_; refine ⟨_, rfl, ?_⟩) | (with_reducible refine ev_callScr ?_; refine ⟨_, rfl, ?_⟩) | (with_reducible refine ev_OL ?_; refine ⟨_, _, rfl, rfl, ?_⟩) | with_reducible refine ev_OR ?_ | with_reducible refine ev_rep ?_ | with_reducible refine ev_listRng1 ?_ | with_reducible refine eo_setO ?_
  | with_reducible refine es_name ?_ | with_reducible refine es_tup2 ?_ | with_reducible refine es_tup3 ?_
  | with_reducible refine ed_addI ?_ | with_reducible refine ed_subI ?_ | with_reducible refine ed_cmp ?_ | with_reducible refine ed_eqI ?_ | with_reducible refine ed_neI ?_ | with_reducible refine ed_slT ?_ | with_reducible refine ed_slL ?_ | with_reducible refine ed_lenT ?_ | with_reducible refine ed_lenL ?_ | with_reducible refine ed_lenS ?_ | with_reducible refine ed_inS ?_ | with_reducible refine ed_itT ?_ | with_reducible refine ed_itL ?_ | with_reducible refine ed_tupL ?_ | with_reducible refine ed_tupT ?_ | with_reducible refine ed_listL ?_ | with_reducible refine ed_listT ?_ | with_reducible refine ed_neg ?_ | with_reducible refine ed_max ?_ | with_reducible refine ed_min ?_ | with_reducible refine ed_intB ?_
  | with_reducible refine ev_rng1 ?_ | with_reducible refine ev_rng2 ?_)
local macro_rules | `(tactic| walk_at "sd") => `(tactic| first | rfl | assumption | (simp only [decide_eq_true_eq, decide_eq_false_iff_not, Bool.not_eq_true', Bool.not_eq_false', Bool.and_eq_true, Bool.or_eq_true, List.length_map, List.length_cons, List.length_nil, List.length_append, List.length_range] at *; omega))
local macro_rules | `(tactic| walk_at "e2") => `(tactic| first
  | walk_at "e1" | with_reducible refine ⟨_, rfl, ?_⟩ | with_reducible refine ⟨_, _, rfl, ?_⟩
  | with_reducible refine And.intro (Eq.refl (List.length _)) ?_ | with_reducible refine And.intro (Nat.le_of_ble_eq_true (n := List.length _) rfl) ?_
  | with_reducible refine And.intro (Eq.refl (_ : Sx)) (?_ : Ed _ _)
  | ((with_reducible refine And.intro ?_ (And.intro ?_ (?_ : Ev _ _))); (· rfl); (· rfl))
  | ((with_reducible refine ed_ixTx ?_); refine ⟨_, by decide, rfl, ?_⟩) | ((with_reducible refine ed_ixLx ?_); refine ⟨_, by decide, rfl, ?_⟩) | ((with_reducible refine es_star ?_))
  | with_reducible refine an_tt ?_ | with_reducible refine an_ft ?_ | with_reducible refine an_tf ?_ | with_reducible refine an_ff ?_ | with_reducible refine an_ntt ?_ | with_reducible refine an_nft ?_ | with_reducible refine an_ntf ?_ | with_reducible refine an_nff ?_
  | ((with_reducible refine ed_dneSelf ?_)) | ((with_reducible refine ed_deqSelf ?_))
  | ((with_reducible refine ed_ixT ?_ ?_ ?_); (· decide); (· rfl)) | ((with_reducible refine ed_ixL ?_ ?_ ?_); (· decide); (· rfl)) | ((with_reducible refine ed_at ?_ ?_ ?_); (· decide); (· rfl))
  | ((with_reducible refine ed_modI ?_ ?_); (· first | decide | omega))
  | with_reducible exact gives_nx | ((with_reducible refine gives_rt ?_); (· rfl)) | ((with_reducible refine And.intro ?_ ?_); (· exact rfl); (· with_reducible exact Eq.refl (_ : Sx))))
local macro_rules | `(tactic| walk_at "e") => `(tactic| repeat walk_at "e2")
/-- begin a def's spec -/
local macro_rules | `(tactic| walk_at "i") => `(tactic| simp only [initS, List.map_cons, List.map_nil, List.length_cons, List.length_nil, Nat.reduceAdd, Nat.reduceSub, List.replicate, List.cons_append, List.nil_append])
/-- a known truth decides -/
local macro_rules | `(tactic| walk_at "t") => `(tactic| first | ((with_reducible refine split_t ?_ ?_); (· walk_at "sd")) | ((with_reducible refine split_t' ?_ ?_); (· walk_at "sd")))
local macro_rules | `(tactic| walk_at "f") => `(tactic| first | ((with_reducible refine split_f ?_ ?_); (· walk_at "sd")) | ((with_reducible refine split_f' ?_ ?_); (· walk_at "sd")))
/-- all that is seen in a look -/
local macro_rules | `(tactic| walk_at "v") => `(tactic| (rw [sealAll_mk (by (simp only [List.set_cons_zero, List.set_cons_succ, List.map_cons, List.map_nil, sealS_none, sealS_dat, sealS_scr, sealS_own, List.getElem?_cons_zero, List.getElem?_cons_succ, sealC_lst]; rfl)) (by (simp only [List.set_cons_zero, List.set_cons_succ, List.map_cons, List.map_nil]; rfl))]))
open Pt Gr Rl
/-! #### k07 -/
theorem alike_li : ∀ a b : List Nat, PySem.W.alikeAll (a.map iD) (b.map iD) = true
  | [], _ => by simp [PySem.W.alikeAll]
  | _ :: _, [] => by simp [PySem.W.alikeAll]
  | x :: a, y :: b => by
    rw [List.map_cons, List.map_cons, PySem.W.alikeAll, alike_li a b]
    rfl
theorem leD_HL {a b : List Nat} (h : HL a b) : leD (liD a) (liD b) = true ∧ leD (liD b) (liD a) = false := by
  obtain ⟨x, a', y, b', rfl, rfl, hxy⟩ := h
  have key : ∀ (x y : Nat) (a b : List Nat), x ≠ y → PySem.W.dataLt (liD (x :: a)) (liD (y :: b)) = decide (x < y) := by
    intro x y a b hn
    have hn : (x : Int) ≠ (y : Int) := by omega
    unfold PySem.W.dataLt liD
    simp only [List.map_cons, PySem.W.keyToks, PySem.W.keyToksAll, iD, List.singleton_append, List.cons_append, List.nil_append]
    rw [PyProof.Rows.lex_self, PyProof.Rows.lex_diff (by simpa using hn)]
    show decide ((x : Int) < (y : Int)) = _
    rw [decide_eq_decide]
    omega
  have e1 : ∀ d e : D, leD d e = !PySem.W.dataLt e d := fun _ _ => rfl
  rw [e1, e1, key _ _ _ _ (by omega), key _ _ _ _ (by omega)]
  constructor
  · simp; omega
  · simp; omega
theorem sortOk_li (L : List (List Nat)) : sortOk (L.map liD) = true := by
  unfold sortOk
  rw [Bool.and_eq_true, Bool.and_eq_true, Bool.or_eq_true]
  refine ⟨⟨?_, .inr ?_⟩, ?_⟩
  · rw [List.all_eq_true]
    intro d hd
    rw [List.all_eq_true]
    intro e he
    obtain ⟨a, _, rfl⟩ := List.mem_map.mp hd
    obtain ⟨b, _, rfl⟩ := List.mem_map.mp he
    unfold liD
    rw [PySem.W.alike]
    exact alike_li a b
  · rw [List.all_eq_true]
    intro d hd
    obtain ⟨a, _, rfl⟩ := List.mem_map.mp hd
    rfl
  · rw [List.all_eq_true]
    intro d hd
    obtain ⟨a, _, rfl⟩ := List.mem_map.mp hd
    have f : Fine 1 (liD a) := fine_list fine_iD
    rw [Bool.and_eq_true]
    exact ⟨decide_eq_true (Nat.le_trans f.2 (by decide)), f.1⟩
theorem ed_sortLi {X L : List (List Nat)} {Q : D → Prop} (h : X.Perm L) (hp : L.Pairwise HL) (q : Q (.list (L.map liD))) : Ed (dSorted [.list (X.map liD)]) Q := by
  refine ⟨_, ?_, q⟩
  simp only [dSorted, sortOk_li, if_true]
  congr 2
  refine List.Perm.eq_of_pairwise (le := fun a b => leD a b = true) ?_ (List.pairwise_mergeSort ?_ ?_ _) ?_ ((List.mergeSort_perm _ _).trans (h.map _))
  · intro a b ha hb h1 h2
    have ha := (List.mergeSort_perm _ _).mem_iff.mp ha
    obtain ⟨x, hx, rfl⟩ := List.mem_map.mp ha
    obtain ⟨y, hy, rfl⟩ := List.mem_map.mp hb
    have hx := h.mem_iff.mp hx
    by_cases e : x = y
    · rw [e]
    · have hs : L.Pairwise fun a b => HL a b ∨ HL b a := hp.imp fun h => .inl h
      rcases pw_mem (fun a b h => h.symm) hs x hx y hy e with z | z
      · have := (leD_HL z).2
        rw [h2] at this; cases this
      · have := (leD_HL z).2
        rw [h1] at this; cases this
  · exact fun a b c => (PySem.W.sortLe_total _ _ _).trans a b c
  · exact fun a b => by rw [Bool.or_eq_true]; exact (PySem.W.sortLe_total _ _ _).total a b
  · rw [List.pairwise_map]
    exact hp.imp fun h => (leD_HL h).1
theorem good_li (a : List Nat) : Good 1 (liD a) := good_list fun d hd => by obtain ⟨i, _, rfl⟩ := List.mem_map.mp hd; exact good_int _
theorem good_lis (L : List (List Nat)) : Good 2 (.list (L.map liD)) := good_list fun d hd => by obtain ⟨i, _, rfl⟩ := List.mem_map.mp hd; exact good_li _
theorem x__law_touching {w : D} {p q : Int} {ls : List Ln} (hw : Web w p ls) (hl : ls.length ≤ 1000000) (q0 : 0 ≤ q) (q1 : q < p) {L : List (List Nat)} (hL : ∀ a ∈ L, ∀ i ∈ a, i < ls.length) : m__law_touching [w, .list (L.map liD), .int q] = some (.list ((L.filter fun a => decide (q ∈ met ls a)).map liD)) := by
  unfold m__law_touching; refine mF_of ?_; walk_at "i"; unfold g__law_touching
  walk_at "e"
  refine ev_lcX (xs := L) (enc := liD) (b := fun a => decide (q ∈ met ls a)) (g := liD) ?_
  walk_at "e"
  refine ⟨rfl, fun a ha => ?_, ?_⟩
  · walk_at "e"
    refine ev_lcX (xs := ends ls q) (enc := en) (b := fun e => decide (e.1 ∈ a.map fun i : Nat => (i : Int))) (g := fun e => .int e.1) ?_
    walk_at "e"
    refine Ed.of (x_ends_at hw hl q0 q1) ?_
    walk_at "e"
    refine ⟨rfl, fun e he => ?_, ?_⟩
    · refine es_tup2 (d := .int e.1) (e := .int e.2) ?_
      unfold liD
      rw [li_ints]
      walk_at "e"
      refine ed_inI ?_
      walk_at "e"
      refine ⟨rfl, rfl, fun _ => ?_⟩
      walk_at "e"
    · walk_at "e"
      refine ed_ne_nil (n := 0) (fun d hd => by obtain ⟨_, _, rfl⟩ := List.mem_map.mp hd; exact fine_int _) ?_
      walk_at "e"
      refine ⟨rfl, ?_, fun _ => ?_⟩
      · rw [Bool.eq_iff_iff, Bool.not_eq_true', decide_eq_false_iff_not, List.map_eq_nil_iff, List.filter_eq_nil_iff, decide_eq_true_eq, mem_met]
        constructor
        · intro h
          refine Classical.byContradiction fun z => h fun e he hm => z ?_
          obtain ⟨hE, hp⟩ := ends_mem.mp he
          obtain ⟨i, hi, ei⟩ := List.mem_map.mp (of_decide_eq_true hm)
          obtain ⟨l, h1, h2⟩ := end_line rfl hE
          have e2 : e.2 = 0 ∨ e.2 = 1 := by have := hE.2.2.1; have := hE.2.2.2; omega
          have el : lat ls i = l := lat_of (by rw [show i = e.1.toNat by omega]; exact h1)
          refine ⟨i, hi, ?_⟩
          rw [← hp, el]
          unfold plc
          rw [h1]
          rcases e2 with e2 | e2 <;> rw [e2]
          · exact .inl rfl
          · exact .inr rfl
        · rintro ⟨i, hi, hq⟩ hno
          have hil := hL a ha i hi
          have hat := lat_at hil
          have mk : ∀ s : Int, (s = 0 ∨ s = 1) → plc ls ((i : Int), s) = q → False := fun s hs hp => by
            refine hno ((i : Int), s) (ends_mem.mpr ⟨⟨by show 0 ≤ (i : Int); omega, by show (i : Int) < ls.length; omega, by show (0 : Int) ≤ s; omega, by show s < (2 : Int); omega⟩, hp⟩) (decide_eq_true (List.mem_map.mpr ⟨i, hi, rfl⟩))
          rcases hq with hq | hq
          · refine mk 0 (.inl rfl) ?_
            unfold plc
            simp [hat, sideOf, hq]
          · refine mk 1 (.inr rfl) ?_
            unfold plc
            simp [hat, sideOf, hq]
      · walk_at "e"
  · walk_at "e"
theorem abz_at {i : Int} (h0 : 0 ≤ i) (h1 : i < 3) : ∃ c, (Str.ofString "abz").cps.toList[i.toNat]? = some c ∧ Let c := by
  have : i = 0 ∨ i = 1 ∨ i = 2 := by omega
  rcases this with rfl | rfl | rfl
  · exact ⟨97, rfl, by constructor <;> decide⟩
  · exact ⟨98, rfl, by constructor <;> decide⟩
  · exact ⟨122, rfl, by constructor <;> decide⟩
theorem parts_len (p : Int) (ls : List Ln) : (partsL p ls).length = (uss p ls).length := by unfold partsL; rw [List.length_map]
theorem let113 : Let 113 := by constructor <;> decide
theorem x__law_right_k07 {c : Nat} {cs : List D} {p : Int} {ls : List Ln} (h : WbOk p ls) (p0 : 0 < p) (p1 : p ≤ 24) (hl : ls.length ≤ 58) (hR : Reel c cs) (hc : 10 ≤ c) :
    ∃ z cs', m__law_right_k07 cs [wb p ls] = some (z, cs') ∧ z = .bool true ∧ Reel (c - 10) cs' := by
  have hw := web_wb p ls
  have hb := wb_bounds h
  have hpm : ∀ a ∈ partsL p ls, ∀ i ∈ a, i < ls.length := fun a ha i hi => by
    obtain ⟨j, _, rfl⟩ := mem_parts.mp ha
    exact (mem_partAt.mp hi).1
  have hpl : (partsL p ls).length ≤ 58 := by rw [parts_len]; have := uss_len p ls; omega
  have hfl : (partsL p ls).flatten.length = ls.length := by have := (flat_all p ls).length_eq; rwa [List.length_range] at this
  unfold m__law_right_k07; refine mIO_of ?_; walk_at "i"; unfold g__law_right_k07
  walk_at "e"
  refine es_tup2 (d := .int p) (e := .tuple (ls.map ln)) ?_
  walk_at "e"
  refine Ed.of (x_parts_of hw h (by omega)) ?_
  walk_at "e"
  refine ed_sumLi (by omega) ?_
  walk_at "e"
  refine ed_sortedPw (flat_all p ls) List.pairwise_lt_range ?_
  walk_at "e"
  rw [List.length_map]
  refine ⟨by omega, by omega, ?_⟩
  rw [Int.toNat_natCast, show rng 0 ls.length = (List.range ls.length).map iD from rng0 _]
  refine Ed.of (dNe_self (good_li _).shaped) ?_
  walk_at "e"
  refine ed_sortLi (List.Perm.refl _) (parts_sorted p ls) ?_
  refine Ed.of (dNe_self (good_lis _).shaped) ?_
  walk_at "e"
  refine ev_drawL ⟨_, rfl, ?_⟩
  walk_at "e"
  refine ⟨_, _, _, rfl, rfl, hR, by omega, by omega, by omega, fun s cs s0 s1 hR => ?_⟩
  walk_at "e"
  refine ev_drawL ⟨_, rfl, ?_⟩
  walk_at "e"
  refine ⟨_, _, _, rfl, rfl, hR, by omega, by omega, by omega, fun o cs o0 o1 hR => ?_⟩
  walk_at "e"
  refine Ed.of (x__law_touching hw (by omega) s0 s1 hpm) ?_
  walk_at "e"
  generalize hT1 : (partsL p ls).filter (fun a => decide (s ∈ met ls a)) = T1
  refine ev_lcX (xs := (partsL p ls).filter fun a => decide (o ∈ met ls a)) (enc := liD) (b := fun a => decide (a ∉ T1)) (g := liD) ?_
  walk_at "e"
  refine Ed.of (x__law_touching hw (by omega) o0 o1 hpm) ?_
  walk_at "e"
  refine ⟨rfl, fun a ha => ?_, ?_⟩
  · walk_at "e"
    refine ed_notInL ?_
    walk_at "e"
    refine ⟨rfl, rfl, fun _ => ?_⟩
    walk_at "e"
  walk_at "e"
  generalize hT2 : ((partsL p ls).filter fun a => decide (o ∈ met ls a)).filter (fun a => decide (a ∉ T1)) = T2
  have hmT1 : ∀ a, a ∈ T1 ↔ a ∈ partsL p ls ∧ s ∈ met ls a := fun a => by rw [← hT1, List.mem_filter, decide_eq_true_eq]
  have hmT2 : ∀ a, a ∈ T2 ↔ (a ∈ partsL p ls ∧ o ∈ met ls a) ∧ a ∉ T1 := fun a => by rw [← hT2, List.mem_filter, List.mem_filter, decide_eq_true_eq, decide_eq_true_eq]
  have hT : ∀ a, a ∈ T1 ++ T2 ↔ a ∈ partsL p ls ∧ tchP ls s o a = true := fun a => by
    rw [List.mem_append, hmT2]
    unfold tchP
    rw [Bool.or_eq_true, decide_eq_true_eq, decide_eq_true_eq]
    constructor
    · rintro (z | ⟨⟨z1, z2⟩, _⟩)
      · exact ⟨((hmT1 a).mp z).1, .inl ((hmT1 a).mp z).2⟩
      · exact ⟨z1, .inr z2⟩
    · rintro ⟨z1, z2⟩
      by_cases y : a ∈ T1
      · exact .inl y
      · refine .inr ⟨⟨z1, ?_⟩, y⟩
        rcases z2 with z2 | z2
        · exact absurd ((hmT1 a).mpr ⟨z1, z2⟩) y
        · exact z2
  have ndT : (T1 ++ T2).Nodup := by
    refine List.nodup_append.mpr ⟨by rw [← hT1]; exact (parts_nodup p ls).filter _, by rw [← hT2]; exact ((parts_nodup p ls).filter _).filter _, fun a ha b hb e => ?_⟩
    subst e
    exact ((hmT2 a).mp hb).2 ha
  have hTl : T1.length + T2.length ≤ 200 := by
    have h1 : T1.length ≤ (partsL p ls).length := by rw [← hT1]; exact List.length_filter_le _ _
    have h2 : T2.length ≤ (partsL p ls).length := by rw [← hT2]; exact Nat.le_trans (List.length_filter_le _ _) (List.length_filter_le _ _)
    omega
  refine ed_addL (by rw [List.length_map, List.length_map]; omega) ?_
  rw [← List.map_append]
  walk_at "e"
  refine ev_drawL ⟨_, rfl, ?_⟩
  walk_at "e"
  refine ⟨_, _, _, rfl, rfl, hR, by omega, by decide, by decide, fun v cs v0 v1 hR => ?_⟩
  obtain ⟨k, hk, hkl⟩ := abz_at v0 v1
  refine ed_ixS v0 hk ?_
  have okl : LnOk p (s, o, k) := ⟨s0, s1, o0, o1, hkl⟩
  have ok2 := wbok_app h okl (by omega)
  have hb2 := wb_bounds ok2
  walk_at "e"
  refine Ed.of (x_with_line hw h okl) ?_
  walk_at "e"
  refine Ed.of (x_parts_of (web_wb _ _) ok2 (by rw [List.length_append]; simp only [List.length_cons, List.length_nil]; omega)) ?_
  walk_at "e"
  refine ev_lcX (xs := partsL p ls) (enc := liD) (b := fun a => !tchP ls s o a) (g := liD) ?_
  walk_at "e"
  refine ⟨rfl, fun a ha => ?_, ?_⟩
  · walk_at "e"
    refine ed_notInL (L := T1 ++ T2) ?_
    walk_at "e"
    refine ⟨rfl, ?_, fun _ => ?_⟩
    · have := hT a
      cases e : tchP ls s o a
      · have z : a ∉ T1 ++ T2 := fun z => by rw [(this.mp z).2] at e; cases e
        exact decide_eq_true z
      · have z : a ∈ T1 ++ T2 := this.mpr ⟨ha, e⟩
        exact decide_eq_false fun y => y z
    · walk_at "e"
  walk_at "e"
  have hflat := touched_flat hb2 ndT hT
  have hfl2 : (T1 ++ T2).flatten.length ≤ 100 := by
    have h1 := hflat.length_eq
    have h2 : (newPart p ls (s, o, k)).length ≤ (ls ++ [(s, o, k)]).length := partAt_len _ _ _
    rw [List.length_append] at h1 h2
    simp only [List.length_cons, List.length_nil] at h1 h2
    omega
  refine ed_sumLi (L := T1 ++ T2) (by omega) ?_
  walk_at "e"
  refine ed_addL (by rw [List.length_map]; simp only [List.length_cons, List.length_nil]; omega) ?_
  rw [List.length_map, show (T1 ++ T2).flatten.map iD ++ [PyData.int (ls.length : Int)] = ((T1 ++ T2).flatten ++ [ls.length]).map iD from by rw [List.map_append]; rfl]
  walk_at "e"
  refine ed_sortedPw hflat (pw_partAt _ _ _) ?_
  walk_at "e"
  have hdl : ((partsL p ls).filter fun a => !tchP ls s o a).length ≤ 58 := Nat.le_trans (List.length_filter_le _ _) hpl
  refine ed_addL (by rw [List.length_map]; simp only [List.length_cons, List.length_nil]; omega) ?_
  rw [show ((partsL p ls).filter fun a => !tchP ls s o a).map liD ++ [liD (newPart p ls (s, o, k))] = (((partsL p ls).filter fun a => !tchP ls s o a) ++ [newPart p ls (s, o, k)]).map liD from by rw [List.map_append]; rfl]
  walk_at "e"
  refine ed_sortLi (longer_parts hb2) (parts_sorted _ _) ?_
  refine Ed.of (dNe_self (good_lis _).shaped) ?_
  walk_at "e"
  refine ed_eq_good (good_lns h.all) (good_tup_le (n := 1) (m := 0) (ds := []) (fun _ h => nomatch h) (by decide)) (fun e => ?_) (fun e => ?_)
  · walk_at "e"
    exact ⟨cs, rfl, rfl, hR.mono (by omega)⟩
  have hne : 0 < ls.length := by
    rcases Nat.eq_zero_or_pos ls.length with z | z
    · rw [List.length_eq_zero_iff.mp z] at e
      exact absurd rfl e
    · exact z
  walk_at "e"
  refine ev_drawL ⟨_, rfl, ?_⟩
  walk_at "e"
  rw [List.length_map]
  refine ⟨_, _, _, rfl, rfl, hR, by omega, by omega, by omega, fun i cs i0 i1 hR => ?_⟩
  walk_at "e"
  have hi : i.toNat < ls.length := by omega
  have hat := lat_at hi
  generalize lat ls i.toNat = l at hat
  have hlm := List.mem_of_getElem? hat
  have hlk := h.all l hlm
  have hspl : ls = ls.take i.toNat ++ l :: ls.drop (i.toNat + 1) := by
    have := List.drop_eq_getElem_cons hi
    rw [show ls[i.toNat] = l from by have := List.getElem?_eq_getElem hi; rw [hat] at this; exact (Option.some.inj this).symm] at this
    rw [← this, List.take_append_drop]
  have hset : ∀ m : Ln, ls.set i.toNat m = ls.take i.toNat ++ m :: ls.drop (i.toNat + 1) := fun m => by
    rw [List.set_eq_take_append_cons_drop, if_pos hi]
  have okP : WbOk p (ls.set i.toNat (l.1, l.2.1, 113)) := ⟨h.p0, fun m hm => by
    rcases List.mem_or_eq_of_mem_set hm with z | rfl
    · exact h.all m z
    · exact ⟨hlk.a0, hlk.a1, hlk.b0, hlk.b1, let113⟩, by rw [List.length_set]; exact h.len⟩
  have okM : WbOk p (ls.map (mrg 97 98)) := ⟨h.p0, fun m hm => by
    obtain ⟨x, hx, rfl⟩ := List.mem_map.mp hm
    have := h.all x hx
    refine ⟨this.a0, this.a1, this.b0, this.b1, ?_⟩
    unfold mrg
    simp only
    split
    · constructor <;> decide
    · exact this.c, by rw [List.length_map]; exact h.len⟩
  have eP : partsL p (ls.set i.toNat (l.1, l.2.1, 113)) = partsL p ls := by
    refine partsL_pr (wb_bounds okP) hb ?_
    rw [hset]
    conv => rhs; rw [hspl]
    rw [List.map_append, List.map_append]
    rfl
  have eM : partsL p (ls.map (mrg 97 98)) = partsL p ls := by
    refine partsL_pr (wb_bounds okM) hb ?_
    rw [List.map_map]
    rfl
  refine Ed.of (x_painted hw h i0 hat (c := 113) (by constructor <;> decide)) ?_
  walk_at "e"
  refine Ed.of (x_parts_of (web_wb _ _) okP (by rw [List.length_set]; omega)) ?_
  rw [eP]
  walk_at "e"
  refine Ed.of (dNe_self (good_lis _).shaped) ?_
  walk_at "e"
  refine Ed.of (x_merged hw h (c := 97) (d := 98) (by constructor <;> decide) (by constructor <;> decide)) ?_
  walk_at "e"
  refine Ed.of (x_parts_of (web_wb _ _) okM (by rw [List.length_map]; omega)) ?_
  rw [eM]
  walk_at "e"
  refine Ed.of (dNe_self (good_lis _).shaped) ?_
  walk_at "e"
  refine ev_drawL ⟨_, rfl, ?_⟩
  walk_at "e"
  refine ⟨_, _, _, rfl, rfl, hR, by omega, by decide, by decide, fun t cs t0 t1 hR => ?_⟩
  walk_at "e"
  have okL : WbOk (p + 1) (ls.set i.toNat (lsn p t l)) := ⟨by omega, fun m hm => by
    rcases List.mem_or_eq_of_mem_set hm with z | rfl
    · have := h.all m z
      exact ⟨this.a0, by have := this.a1; omega, this.b0, by have := this.b1; omega, this.c⟩
    · have h1 := hlk.a0; have h2 := hlk.a1; have h3 := hlk.b0; have h4 := hlk.b1
      unfold lsn
      refine ⟨?_, ?_, ?_, ?_, hlk.c⟩ <;> simp only <;> split <;> omega, by rw [List.length_set]; exact h.len⟩
  have okW : WbOk p (ls.take i.toNat ++ ls.drop (i.toNat + 1)) := ⟨h.p0, fun m hm => by
    rcases List.mem_append.mp hm with z | z
    · exact h.all m (List.mem_of_mem_take z)
    · exact h.all m (List.mem_of_mem_drop z), by rw [List.length_append, List.length_take, List.length_drop]; have := h.len; omega⟩
  have cL := count_loose (k := lsn p t l) (p := p) (A := ls.take i.toNat) (B := ls.drop (i.toNat + 1)) (l := l) (by rw [← hspl]; exact hb) (by
    have : t = 0 ∨ t = 1 := by omega
    unfold lsn
    rcases this with rfl | rfl
    · exact .inr ⟨rfl, rfl⟩
    · exact .inl ⟨rfl, rfl⟩)
  have cW := count_less (p := p) (A := ls.take i.toNat) (B := ls.drop (i.toNat + 1)) (l := l) (by rw [← hspl]; exact hb)
  rw [← hspl] at cL cW
  rw [← hset] at cL
  refine Ed.of (x_loosened hw h (isEn_en (i, t)) i0 hat t0 t1) ?_
  walk_at "e"
  refine Ed.of (x_parts_of (web_wb _ _) okL (by rw [List.length_set]; omega)) ?_
  walk_at "e"
  rw [List.length_map, List.length_map, parts_len, parts_len]
  walk_at "e"
  refine Ed.of (x_without_line hw h i0 (by omega)) ?_
  walk_at "e"
  refine Ed.of (x_parts_of (web_wb _ _) okW (by rw [List.length_append, List.length_take, List.length_drop]; omega)) ?_
  walk_at "e"
  rw [List.length_map, List.length_map, parts_len, parts_len]
  walk_at "e"
  refine ed_inI (ns := [0, 1]) ?_
  rw [decide_eq_true (show ((uss (p + 1) (ls.set i.toNat (lsn p t l))).length : Int) - (uss p ls).length ∈ [(0 : Int), 1] from by
    simp only [List.mem_cons, List.not_mem_nil, or_false]
    omega)]
  walk_at "e"
  refine ed_inI (ns := [-1, 0, 1]) ?_
  rw [decide_eq_true (show ((uss p (ls.take i.toNat ++ ls.drop (i.toNat + 1))).length : Int) - (uss p ls).length ∈ [(-1 : Int), 0, 1] from by
    simp only [List.mem_cons, List.not_mem_nil, or_false]
    omega)]
  walk_at "e"
  exact ⟨cs, rfl, rfl, hR.mono (by omega)⟩
end Lw

set_option maxHeartbeats 4000000
namespace Lw
open PySem Fu
local macro_rules | `(tactic| walk_at "e1") => `(tactic| first
  | with_reducible refine eo_seq ?_ | (with_reducible refine then_nx' ?_; refine ⟨?_, ?_, ?_⟩; rotate_left; · (try dsimp only [List.set, List.length_cons, List.length_nil, List.cons_append, List.nil_append, Nat.zero_add, Nat.reduceAdd]); exact rfl) | with_reducible refine then_rt ?_ | with_reducible refine eo_if ?_ | with_reducible refine eo_ret ?_ | with_reducible refine eo_set ?_ | with_reducible refine eo_asg ?_ | with_reducible refine eo_drop ?_ | with_reducible refine eo_nx ?_ | with_reducible refine eo_par ?_ | with_reducible refine eo_own ?_ | with_reducible refine eo_retN ?_ | with_reducible refine eo_for ?_ | with_reducible refine eo_retO ?_
  | with_reducible refine ev_c ?_ | (with_reducible refine ev_var ?_; refine ⟨_, rfl, ?_⟩) | with_reducible refine ev_bin ?_ | with_reducible refine ev_un ?_ | with_reducible refine ev_nil ?_ | with_reducible refine ev_cons ?_
  | with_reducible refine ev_tup ?_ | with_reducible refine ev_lst ?_ | with_reducible refine ev_call ?_ | with_reducible refine ev_callF ?_ | with_reducible refine ev_isi ?_ | with_reducible refine ev_isi2 ?_ | with_reducible refine ev_andV ?_ | with_reducible refine ev_orV ?_ | with_reducible refine ev_notV ?_
  | with_reducible refine ev_B ?_ | with_reducible refine ev_and ?_ | with_reducible refine ev_or ?_ | with_reducible refine ev_not ?_ | with_reducible refine ev_yes ?_ | with_reducible refine ev_if ?_ | with_reducible refine ev_no ?_ | with_reducible refine ev_so ?_ | with_reducible refine ev_sl ?_ | with_reducible refine ev_items ?_
  | (with_reducible refine ev_ixO ?_; refine ⟨_, _, rfl, rfl, ?_⟩) | (with_reducible refine ev_varO ?_; refine ⟨_, _, rfl, rfl, ?_⟩) | (with_reducible refine ev_lenO ?_; refine ⟨_, _, rfl, rfl, ?_⟩) | (with_reducible refine ev_scrSl ?_; refine ⟨_, rfl, ?_⟩) | (with_reducible refine ev_scrLen ?_; refine ⟨_, rfl, ?_⟩) | (with_reducible refine ev_callScr ?_; refine ⟨_, rfl, ?_⟩) | (with_reducible refine ev_OL ?_; refine ⟨_, _, rfl, rfl, ?_⟩) | with_reducible refine ev_OR ?_ | with_reducible refine ev_rep ?_ | with_reducible refine ev_listRng1 ?_ | with_reducible refine eo_setO ?_
  | with_reducible refine es_name ?_ | with_reducible refine es_tup2 ?_ | with_reducible refine es_tup3 ?_
  | with_reducible refine ed_addI ?_ | with_reducible refine ed_subI ?_ | with_reducible refine ed_cmp ?_ | with_reducible refine ed_eqI ?_ | with_reducible refine ed_neI ?_ | with_reducible refine ed_slT ?_ | with_reducible refine ed_slL ?_ | with_reducible refine ed_lenT ?_ | with_reducible refine ed_lenL ?_ | with_reducible refine ed_lenS ?_ | with_reducible refine ed_inS ?_ | with_reducible refine ed_itT ?_ | with_reducible refine ed_itL ?_ | with_reducible refine ed_tupL ?_ | with_reducible refine ed_tupT ?_ | with_reducible refine ed_listL ?_ | with_reducible refine ed_listT ?_ | with_reducible refine ed_neg ?_ | with_reducible refine ed_max ?_ | with_reducible refine ed_min ?_ | with_reducible refine ed_intB ?_
  | with_reducible refine ev_rng1 ?_ | with_reducible refine ev_rng2 ?_)
local macro_rules | `(tactic| walk_at "sd") => `(tactic| first | rfl | assumption | (simp only [decide_eq_true_eq, decide_eq_false_iff_not, Bool.not_eq_true', Bool.not_eq_false', Bool.and_eq_true, Bool.or_eq_true, List.length_map, List.length_cons, List.length_nil, List.length_append, List.length_range] at *; omega))
local macro_rules | `(tactic| walk_at "e2") => `(tactic| first
  | walk_at "e1" | with_reducible refine ⟨_, rfl, ?_⟩ | with_reducible refine ⟨_, _, rfl, ?_⟩
  | with_reducible refine And.intro (Eq.refl (List.length _)) ?_ | with_reducible refine And.intro (Nat.le_of_ble_eq_true (n := List.length _) rfl) ?_
  | with_reducible refine And.intro (Eq.refl (_ : Sx)) (?_ : Ed _ _)
  | ((with_reducible refine And.intro ?_ (And.intro ?_ (?_ : Ev _ _))); (· rfl); (· rfl))
  | ((with_reducible refine ed_ixT ?_ ?_ ?_); (· decide); (· rfl)) | ((with_reducible refine ed_ixL ?_ ?_ ?_); (· decide); (· rfl)) | ((with_reducible refine ed_at ?_ ?_ ?_); (· decide); (· rfl))
  | ((with_reducible refine ed_modI ?_ ?_); (· first | decide | omega))
  | with_reducible exact gives_nx | ((with_reducible refine gives_rt ?_); (· rfl)) | ((with_reducible refine And.intro ?_ ?_); (· exact rfl); (· with_reducible exact Eq.refl (_ : Sx))))
local macro_rules | `(tactic| walk_at "e") => `(tactic| repeat walk_at "e2")
/-- begin a def's spec -/
local macro_rules | `(tactic| walk_at "i") => `(tactic| simp only [initS, List.map_cons, List.map_nil, List.length_cons, List.length_nil, Nat.reduceAdd, Nat.reduceSub, List.replicate, List.cons_append, List.nil_append])
/-- a known truth decides -/
local macro_rules | `(tactic| walk_at "t") => `(tactic| first | ((with_reducible refine split_t ?_ ?_); (· walk_at "sd")) | ((with_reducible refine split_t' ?_ ?_); (· walk_at "sd")))
local macro_rules | `(tactic| walk_at "f") => `(tactic| first | ((with_reducible refine split_f ?_ ?_); (· walk_at "sd")) | ((with_reducible refine split_f' ?_ ?_); (· walk_at "sd")))
/-- all that is seen in a look -/
local macro_rules | `(tactic| walk_at "v") => `(tactic| (rw [sealAll_mk (by (simp only [List.set_cons_zero, List.set_cons_succ, List.map_cons, List.map_nil, sealS_none, sealS_dat, sealS_scr, sealS_own, List.getElem?_cons_zero, List.getElem?_cons_succ, sealC_lst]; rfl)) (by (simp only [List.set_cons_zero, List.set_cons_succ, List.map_cons, List.map_nil]; rfl))]))
namespace Rl
theorem some_letters {x : Str} {l : List Nat} (e : x.cps.toList = l) (h0 : 0 < l.length) (h1 : l.length ≤ 26) (h : ∀ c ∈ l, Let c) : Sp.Letters x := Sp.letters_few e h0 h1 h
/-! ### lists or tuples all through -/
end Rl
end Lw

set_option maxHeartbeats 4000000
namespace Lw
open PySem Fu
local macro_rules | `(tactic| walk_at "e1") => `(tactic| first
  | with_reducible refine eo_seq ?_ | (with_reducible refine then_nx' ?_; refine ⟨?_, ?_, ?_⟩; rotate_left; · (try dsimp only [List.set, List.length_cons, List.length_nil, List.cons_append, List.nil_append, Nat.zero_add, Nat.reduceAdd]); exact rfl) | with_reducible refine then_rt ?_ | with_reducible refine eo_if ?_ | with_reducible refine eo_ret ?_ | with_reducible refine eo_set ?_ | with_reducible refine eo_asg ?_ | with_reducible refine eo_drop ?_ | with_reducible refine eo_nx ?_ | with_reducible refine eo_par ?_ | with_reducible refine eo_own ?_ | with_reducible refine eo_retN ?_ | with_reducible refine eo_for ?_ | with_reducible refine eo_retO ?_
  | with_reducible refine ev_c ?_ | (with_reducible refine ev_var ?_; refine ⟨_, rfl, ?_⟩) | with_reducible refine ev_bin ?_ | with_reducible refine ev_un ?_ | with_reducible refine ev_nil ?_ | with_reducible refine ev_cons ?_
  | with_reducible refine ev_tup ?_ | with_reducible refine ev_lst ?_ | with_reducible refine ev_call ?_ | with_reducible refine ev_callF ?_ | with_reducible refine ev_isi ?_ | with_reducible refine ev_isi2 ?_ | with_reducible refine ev_andV ?_ | with_reducible refine ev_orV ?_ | with_reducible refine ev_notV ?_
  | with_reducible refine ev_B ?_ | with_reducible refine ev_and ?_ | with_reducible refine ev_or ?_ | with_reducible refine ev_not ?_ | with_reducible refine ev_yes ?_ | with_reducible refine ev_if ?_ | with_reducible refine ev_no ?_ | with_reducible refine ev_so ?_ | with_reducible refine ev_sl ?_ | with_reducible refine ev_items ?_
  | (with_reducible refine ev_ixO ?_; refine ⟨_, _, rfl, rfl, ?_⟩) | (with_reducible refine ev_varO ?_; refine ⟨_, _, rfl, rfl, ?_⟩) | (with_reducible refine ev_lenO ?_; refine ⟨_, _, rfl, rfl, ?_⟩) | (with_reducible refine ev_scrSl ?_; refine ⟨_, rfl, ?_⟩) | (with_reducible refine ev_scrLen ?_; refine ⟨_, rfl, ?_⟩) | (with_reducible refine ev_callScr ?_; refine ⟨_, rfl, ?_⟩) | (with_reducible refine ev_OL ?_; refine ⟨_, _, rfl, rfl, ?_⟩) | with_reducible refine ev_OR ?_ | with_reducible refine ev_rep ?_ | with_reducible refine ev_listRng1 ?_ | with_reducible refine eo_setO ?_
  | with_reducible refine es_name ?_ | with_reducible refine es_tup2 ?_ | with_reducible refine es_tup3 ?_
  | with_reducible refine ed_addI ?_ | with_reducible refine ed_subI ?_ | with_reducible refine ed_cmp ?_ | with_reducible refine ed_eqI ?_ | with_reducible refine ed_neI ?_ | with_reducible refine ed_slT ?_ | with_reducible refine ed_slL ?_ | with_reducible refine ed_lenT ?_ | with_reducible refine ed_lenL ?_ | with_reducible refine ed_lenS ?_ | with_reducible refine ed_inS ?_ | with_reducible refine ed_itT ?_ | with_reducible refine ed_itL ?_ | with_reducible refine ed_tupL ?_ | with_reducible refine ed_tupT ?_ | with_reducible refine ed_listL ?_ | with_reducible refine ed_listT ?_ | with_reducible refine ed_neg ?_ | with_reducible refine ed_max ?_ | with_reducible refine ed_min ?_ | with_reducible refine ed_intB ?_
  | with_reducible refine ev_rng1 ?_ | with_reducible refine ev_rng2 ?_)
local macro_rules | `(tactic| walk_at "sd") => `(tactic| first | rfl | assumption | (simp only [decide_eq_true_eq, decide_eq_false_iff_not, Bool.not_eq_true', Bool.not_eq_false', Bool.and_eq_true, Bool.or_eq_true, List.length_map, List.length_cons, List.length_nil, List.length_append, List.length_range] at *; omega))
local macro_rules | `(tactic| walk_at "e2") => `(tactic| first
  | walk_at "e1" | with_reducible refine ⟨_, rfl, ?_⟩ | with_reducible refine ⟨_, _, rfl, ?_⟩
  | with_reducible refine And.intro (Eq.refl (List.length _)) ?_ | with_reducible refine And.intro (Nat.le_of_ble_eq_true (n := List.length _) rfl) ?_
  | with_reducible refine And.intro (Eq.refl (_ : Sx)) (?_ : Ed _ _)
  | ((with_reducible refine And.intro ?_ (And.intro ?_ (?_ : Ev _ _))); (· rfl); (· rfl))
  | ((with_reducible refine ed_ixT ?_ ?_ ?_); (· decide); (· rfl)) | ((with_reducible refine ed_ixL ?_ ?_ ?_); (· decide); (· rfl)) | ((with_reducible refine ed_at ?_ ?_ ?_); (· decide); (· rfl))
  | ((with_reducible refine ed_modI ?_ ?_); (· first | decide | omega))
  | with_reducible exact gives_nx | ((with_reducible refine gives_rt ?_); (· rfl)) | ((with_reducible refine And.intro ?_ ?_); (· exact rfl); (· with_reducible exact Eq.refl (_ : Sx))))
local macro_rules | `(tactic| walk_at "e") => `(tactic| repeat walk_at "e2")
/-- begin a def's spec -/
local macro_rules | `(tactic| walk_at "i") => `(tactic| simp only [initS, List.map_cons, List.map_nil, List.length_cons, List.length_nil, Nat.reduceAdd, Nat.reduceSub, List.replicate, List.cons_append, List.nil_append])
/-- a known truth decides -/
local macro_rules | `(tactic| walk_at "t") => `(tactic| first | ((with_reducible refine split_t ?_ ?_); (· walk_at "sd")) | ((with_reducible refine split_t' ?_ ?_); (· walk_at "sd")))
local macro_rules | `(tactic| walk_at "f") => `(tactic| first | ((with_reducible refine split_f ?_ ?_); (· walk_at "sd")) | ((with_reducible refine split_f' ?_ ?_); (· walk_at "sd")))
/-- all that is seen in a look -/
local macro_rules | `(tactic| walk_at "v") => `(tactic| (rw [sealAll_mk (by (simp only [List.set_cons_zero, List.set_cons_succ, List.map_cons, List.map_nil, sealS_none, sealS_dat, sealS_scr, sealS_own, List.getElem?_cons_zero, List.getElem?_cons_succ, sealC_lst]; rfl)) (by (simp only [List.set_cons_zero, List.set_cons_succ, List.map_cons, List.map_nil]; rfl))]))
/-! ### what may raise -/
section
variable {α : Type} {S : Sx} {g h : Sx → Option (Zr Out)} {Z : Zr Out → Prop}
end
/-! ### the refusals -/
end Lw

set_option maxHeartbeats 4000000
namespace Lw
open PySem Fu
local macro_rules | `(tactic| walk_at "e1") => `(tactic| first
  | with_reducible refine eo_seq ?_ | (with_reducible refine then_nx' ?_; refine ⟨?_, ?_, ?_⟩; rotate_left; · (try dsimp only [List.set, List.length_cons, List.length_nil, List.cons_append, List.nil_append, Nat.zero_add, Nat.reduceAdd]); exact rfl) | with_reducible refine then_rt ?_ | with_reducible refine eo_if ?_ | with_reducible refine eo_ret ?_ | with_reducible refine eo_set ?_ | with_reducible refine eo_asg ?_ | with_reducible refine eo_drop ?_ | with_reducible refine eo_nx ?_ | with_reducible refine eo_par ?_ | with_reducible refine eo_own ?_ | with_reducible refine eo_retN ?_ | with_reducible refine eo_for ?_ | with_reducible refine eo_retO ?_
  | with_reducible refine ev_c ?_ | (with_reducible refine ev_var ?_; refine ⟨_, rfl, ?_⟩) | with_reducible refine ev_bin ?_ | with_reducible refine ev_un ?_ | with_reducible refine ev_nil ?_ | with_reducible refine ev_cons ?_
  | with_reducible refine ev_tup ?_ | with_reducible refine ev_lst ?_ | with_reducible refine ev_call ?_ | with_reducible refine ev_callF ?_ | with_reducible refine ev_isi ?_ | with_reducible refine ev_isi2 ?_ | with_reducible refine ev_andV ?_ | with_reducible refine ev_orV ?_ | with_reducible refine ev_notV ?_
  | with_reducible refine ev_B ?_ | with_reducible refine ev_and ?_ | with_reducible refine ev_or ?_ | with_reducible refine ev_not ?_ | with_reducible refine ev_yes ?_ | with_reducible refine ev_if ?_ | with_reducible refine ev_no ?_ | with_reducible refine ev_so ?_ | with_reducible refine ev_sl ?_ | with_reducible refine ev_items ?_
  | (with_reducible refine ev_ixO ?_; refine ⟨_, _, rfl, rfl, ?_⟩) | (with_reducible refine ev_varO ?_; refine ⟨_, _, rfl, rfl, ?_⟩) | (with_reducible refine ev_lenO ?_; refine ⟨_, _, rfl, rfl, ?_⟩) | (with_reducible refine ev_scrSl ?_; refine ⟨_, rfl, ?_⟩) | (with_reducible refine ev_scrLen ?_; refine ⟨_, rfl, ?_⟩) | (with_reducible refine ev_callScr ?_; refine ⟨_, rfl, ?_⟩) | (with_reducible refine ev_OL ?_; refine ⟨_, _, rfl, rfl, ?_⟩) | with_reducible refine ev_OR ?_ | with_reducible refine ev_rep ?_ | with_reducible refine ev_listRng1 ?_ | with_reducible refine eo_setO ?_
  | with_reducible refine es_name ?_ | with_reducible refine es_tup2 ?_ | with_reducible refine es_tup3 ?_
  | with_reducible refine ed_addI ?_ | with_reducible refine ed_subI ?_ | with_reducible refine ed_cmp ?_ | with_reducible refine ed_eqI ?_ | with_reducible refine ed_neI ?_ | with_reducible refine ed_slT ?_ | with_reducible refine ed_slL ?_ | with_reducible refine ed_lenT ?_ | with_reducible refine ed_lenL ?_ | with_reducible refine ed_lenS ?_ | with_reducible refine ed_inS ?_ | with_reducible refine ed_itT ?_ | with_reducible refine ed_itL ?_ | with_reducible refine ed_tupL ?_ | with_reducible refine ed_tupT ?_ | with_reducible refine ed_listL ?_ | with_reducible refine ed_listT ?_ | with_reducible refine ed_neg ?_ | with_reducible refine ed_max ?_ | with_reducible refine ed_min ?_ | with_reducible refine ed_intB ?_
  | with_reducible refine ev_rng1 ?_ | with_reducible refine ev_rng2 ?_)
local macro_rules | `(tactic| walk_at "sd") => `(tactic| first | rfl | assumption | (simp only [decide_eq_true_eq, decide_eq_false_iff_not, Bool.not_eq_true', Bool.not_eq_false', Bool.and_eq_true, Bool.or_eq_true, List.length_map, List.length_cons, List.length_nil, List.length_append, List.length_range] at *; omega))
local macro_rules | `(tactic| walk_at "e2") => `(tactic| first
  | walk_at "e1" | with_reducible refine ⟨_, rfl, ?_⟩ | with_reducible refine ⟨_, _, rfl, ?_⟩
  | with_reducible refine And.intro (Eq.refl (List.length _)) ?_ | with_reducible refine And.intro (Nat.le_of_ble_eq_true (n := List.length _) rfl) ?_
  | with_reducible refine And.intro (Eq.refl (_ : Sx)) (?_ : Ed _ _)
  | ((with_reducible refine And.intro ?_ (And.intro ?_ (?_ : Ev _ _))); (· rfl); (· rfl))
  | ((with_reducible refine ed_ixT ?_ ?_ ?_); (· decide); (· rfl)) | ((with_reducible refine ed_ixL ?_ ?_ ?_); (· decide); (· rfl)) | ((with_reducible refine ed_at ?_ ?_ ?_); (· decide); (· rfl))
  | ((with_reducible refine ed_modI ?_ ?_); (· first | decide | omega))
  | with_reducible exact gives_nx | ((with_reducible refine gives_rt ?_); (· rfl)) | ((with_reducible refine And.intro ?_ ?_); (· exact rfl); (· with_reducible exact Eq.refl (_ : Sx))))
local macro_rules | `(tactic| walk_at "e") => `(tactic| repeat walk_at "e2")
/-- begin a def's spec -/
local macro_rules | `(tactic| walk_at "i") => `(tactic| simp only [initS, List.map_cons, List.map_nil, List.length_cons, List.length_nil, Nat.reduceAdd, Nat.reduceSub, List.replicate, List.cons_append, List.nil_append])
/-- a known truth decides -/
local macro_rules | `(tactic| walk_at "t") => `(tactic| first | ((with_reducible refine split_t ?_ ?_); (· walk_at "sd")) | ((with_reducible refine split_t' ?_ ?_); (· walk_at "sd")))
local macro_rules | `(tactic| walk_at "f") => `(tactic| first | ((with_reducible refine split_f ?_ ?_); (· walk_at "sd")) | ((with_reducible refine split_f' ?_ ?_); (· walk_at "sd")))
/-- all that is seen in a look -/
local macro_rules | `(tactic| walk_at "v") => `(tactic| (rw [sealAll_mk (by (simp only [List.set_cons_zero, List.set_cons_succ, List.map_cons, List.map_nil, sealS_none, sealS_dat, sealS_scr, sealS_own, List.getElem?_cons_zero, List.getElem?_cons_succ, sealC_lst]; rfl)) (by (simp only [List.set_cons_zero, List.set_cons_succ, List.map_cons, List.map_nil]; rfl))]))
/-! ### the deeds, refused or not -/
section
variable {α : Type} {S : Sx} {g h : Sx → Option (Zr Out)} {Z : Zr Out → Prop}
end
section
variable {w : D} {p : Int} {ls : List Ln} {a b c : D}
theorem place_of {n : Int} {d : D} (h : placeD n d = true) : ∃ i : Int, d = .int i ∧ 0 ≤ i ∧ i < n := by
  cases d <;> simp [placeD] at h
  exact ⟨_, rfl, h.1, h.2⟩
end
end Lw

set_option maxHeartbeats 4000000
namespace Lw
open PySem Fu
local macro_rules | `(tactic| walk_at "e1") => `(tactic| first
  | with_reducible refine eo_seq ?_ | (with_reducible refine then_nx' ?_; refine ⟨?_, ?_, ?_⟩; rotate_left; · (try dsimp only [List.set, List.length_cons, List.length_nil, List.cons_append, List.nil_append, Nat.zero_add, Nat.reduceAdd]); exact rfl) | with_reducible refine then_rt ?_ | with_reducible refine eo_if ?_ | with_reducible refine eo_ret ?_ | with_reducible refine eo_set ?_ | with_reducible refine eo_asg ?_ | with_reducible refine eo_drop ?_ | with_reducible refine eo_nx ?_ | with_reducible refine eo_par ?_ | with_reducible refine eo_own ?_ | with_reducible refine eo_retN ?_ | with_reducible refine eo_for ?_ | with_reducible refine eo_retO ?_
  | with_reducible refine ev_c ?_ | (with_reducible refine ev_var ?_; refine ⟨_, rfl, ?_⟩) | with_reducible refine ev_bin ?_ | with_reducible refine ev_un ?_ | with_reducible refine ev_nil ?_ | with_reducible refine ev_cons ?_
  | with_reducible refine ev_tup ?_ | with_reducible refine ev_lst ?_ | with_reducible refine ev_call ?_ | with_reducible refine ev_callF ?_ | with_reducible refine ev_isi ?_ | with_reducible refine ev_isi2 ?_ | with_reducible refine ev_andV ?_ | with_reducible refine ev_orV ?_ | with_reducible refine ev_notV ?_
  | with_reducible refine ev_B ?_ | with_reducible refine ev_and ?_ | with_reducible refine ev_or ?_ | with_reducible refine ev_not ?_ | with_reducible refine ev_yes ?_ | with_reducible refine ev_if ?_ | with_reducible refine ev_no ?_ | with_reducible refine ev_so ?_ | with_reducible refine ev_sl ?_ | with_reducible refine ev_items ?_
  | (with_reducible refine ev_ixO ?_; refine ⟨_, _, rfl, rfl, ?_⟩) | (with_reducible refine ev_varO ?_; refine ⟨_, _, rfl, rfl, ?_⟩) | (with_reducible refine ev_lenO ?_; refine ⟨_, _, rfl, rfl, ?_⟩) | (with_reducible refine ev_scrSl ?_; refine ⟨_, rfl, ?_⟩) | (with_reducible refine ev_scrLen ?_; refine ⟨_, rfl, ?_⟩) | (with_reducible refine ev_callScr ?_; refine ⟨_, rfl, ?_⟩) | (with_reducible refine ev_OL ?_; refine ⟨_, _, rfl, rfl, ?_⟩) | with_reducible refine ev_OR ?_ | with_reducible refine ev_rep ?_ | with_reducible refine ev_listRng1 ?_ | with_reducible refine eo_setO ?_
  | with_reducible refine es_name ?_ | with_reducible refine es_tup2 ?_ | with_reducible refine es_tup3 ?_
  | with_reducible refine ed_addI ?_ | with_reducible refine ed_subI ?_ | with_reducible refine ed_cmp ?_ | with_reducible refine ed_eqI ?_ | with_reducible refine ed_neI ?_ | with_reducible refine ed_slT ?_ | with_reducible refine ed_slL ?_ | with_reducible refine ed_lenT ?_ | with_reducible refine ed_lenL ?_ | with_reducible refine ed_lenS ?_ | with_reducible refine ed_inS ?_ | with_reducible refine ed_itT ?_ | with_reducible refine ed_itL ?_ | with_reducible refine ed_tupL ?_ | with_reducible refine ed_tupT ?_ | with_reducible refine ed_listL ?_ | with_reducible refine ed_listT ?_ | with_reducible refine ed_neg ?_ | with_reducible refine ed_max ?_ | with_reducible refine ed_min ?_ | with_reducible refine ed_intB ?_
  | with_reducible refine ev_rng1 ?_ | with_reducible refine ev_rng2 ?_)
local macro_rules | `(tactic| walk_at "sd") => `(tactic| first | rfl | assumption | (simp only [decide_eq_true_eq, decide_eq_false_iff_not, Bool.not_eq_true', Bool.not_eq_false', Bool.and_eq_true, Bool.or_eq_true, List.length_map, List.length_cons, List.length_nil, List.length_append, List.length_range] at *; omega))
local macro_rules | `(tactic| walk_at "e2") => `(tactic| first
  | walk_at "e1" | with_reducible refine ⟨_, rfl, ?_⟩ | with_reducible refine ⟨_, _, rfl, ?_⟩
  | with_reducible refine And.intro (Eq.refl (List.length _)) ?_ | with_reducible refine And.intro (Nat.le_of_ble_eq_true (n := List.length _) rfl) ?_
  | with_reducible refine And.intro (Eq.refl (_ : Sx)) (?_ : Ed _ _)
  | ((with_reducible refine And.intro ?_ (And.intro ?_ (?_ : Ev _ _))); (· rfl); (· rfl))
  | ((with_reducible refine ed_ixT ?_ ?_ ?_); (· decide); (· rfl)) | ((with_reducible refine ed_ixL ?_ ?_ ?_); (· decide); (· rfl)) | ((with_reducible refine ed_at ?_ ?_ ?_); (· decide); (· rfl))
  | ((with_reducible refine ed_modI ?_ ?_); (· first | decide | omega))
  | with_reducible exact gives_nx | ((with_reducible refine gives_rt ?_); (· rfl)) | ((with_reducible refine And.intro ?_ ?_); (· exact rfl); (· with_reducible exact Eq.refl (_ : Sx))))
local macro_rules | `(tactic| walk_at "e") => `(tactic| repeat walk_at "e2")
/-- begin a def's spec -/
local macro_rules | `(tactic| walk_at "i") => `(tactic| simp only [initS, List.map_cons, List.map_nil, List.length_cons, List.length_nil, Nat.reduceAdd, Nat.reduceSub, List.replicate, List.cons_append, List.nil_append])
/-- a known truth decides -/
local macro_rules | `(tactic| walk_at "t") => `(tactic| first | ((with_reducible refine split_t ?_ ?_); (· walk_at "sd")) | ((with_reducible refine split_t' ?_ ?_); (· walk_at "sd")))
local macro_rules | `(tactic| walk_at "f") => `(tactic| first | ((with_reducible refine split_f ?_ ?_); (· walk_at "sd")) | ((with_reducible refine split_f' ?_ ?_); (· walk_at "sd")))
/-- all that is seen in a look -/
local macro_rules | `(tactic| walk_at "v") => `(tactic| (rw [sealAll_mk (by (simp only [List.set_cons_zero, List.set_cons_succ, List.map_cons, List.map_nil, sealS_none, sealS_dat, sealS_scr, sealS_own, List.getElem?_cons_zero, List.getElem?_cons_succ, sealC_lst]; rfl)) (by (simp only [List.set_cons_zero, List.set_cons_succ, List.map_cons, List.map_nil]; rfl))]))
namespace Rl
open Lw
def told : Except Str D → Str
  | .ok _ => "none"
  | .error c => c
end Rl
end Lw

set_option maxHeartbeats 4000000
namespace Lw
open PySem Fu
local macro_rules | `(tactic| walk_at "e1") => `(tactic| first
  | with_reducible refine eo_seq ?_ | (with_reducible refine then_nx' ?_; refine ⟨?_, ?_, ?_⟩; rotate_left; · (try dsimp only [List.set, List.length_cons, List.length_nil, List.cons_append, List.nil_append, Nat.zero_add, Nat.reduceAdd]); exact rfl) | with_reducible refine then_rt ?_ | with_reducible refine eo_if ?_ | with_reducible refine eo_ret ?_ | with_reducible refine eo_set ?_ | with_reducible refine eo_asg ?_ | with_reducible refine eo_drop ?_ | with_reducible refine eo_nx ?_ | with_reducible refine eo_par ?_ | with_reducible refine eo_own ?_ | with_reducible refine eo_retN ?_ | with_reducible refine eo_for ?_ | with_reducible refine eo_retO ?_
  | with_reducible refine ev_c ?_ | (with_reducible refine ev_var ?_; refine ⟨_, rfl, ?_⟩) | with_reducible refine ev_bin ?_ | with_reducible refine ev_un ?_ | with_reducible refine ev_nil ?_ | with_reducible refine ev_cons ?_
  | with_reducible refine ev_tup ?_ | with_reducible refine ev_lst ?_ | with_reducible refine ev_call ?_ | with_reducible refine ev_callF ?_ | with_reducible refine ev_isi ?_ | with_reducible refine ev_isi2 ?_ | with_reducible refine ev_andV ?_ | with_reducible refine ev_orV ?_ | with_reducible refine ev_notV ?_
  | with_reducible refine ev_B ?_ | with_reducible refine ev_and ?_ | with_reducible refine ev_or ?_ | with_reducible refine ev_not ?_ | with_reducible refine ev_yes ?_ | with_reducible refine ev_if ?_ | with_reducible refine ev_no ?_ | with_reducible refine ev_so ?_ | with_reducible refine ev_sl ?_ | with_reducible refine ev_items ?_
  | (with_reducible refine ev_ixO ?_; refine ⟨_, _, rfl, rfl, ?_⟩) | (with_reducible refine ev_varO ?_; refine ⟨_, _, rfl, rfl, ?_⟩) | (with_reducible refine ev_lenO ?_; refine ⟨_, _, rfl, rfl, ?_⟩) | (with_reducible refine ev_scrSl ?_; refine ⟨_, rfl, ?_⟩) | (with_reducible refine ev_scrLen ?_; refine ⟨_, rfl, ?_⟩) | (with_reducible refine ev_callScr ?_; refine ⟨_, rfl, ?_⟩) | (with_reducible refine ev_OL ?_; refine ⟨_, _, rfl, rfl, ?_⟩) | with_reducible refine ev_OR ?_ | with_reducible refine ev_rep ?_ | with_reducible refine ev_listRng1 ?_ | with_reducible refine eo_setO ?_
  | with_reducible refine es_name ?_ | with_reducible refine es_tup2 ?_ | with_reducible refine es_tup3 ?_
  | with_reducible refine ed_addI ?_ | with_reducible refine ed_subI ?_ | with_reducible refine ed_cmp ?_ | with_reducible refine ed_eqI ?_ | with_reducible refine ed_neI ?_ | with_reducible refine ed_slT ?_ | with_reducible refine ed_slL ?_ | with_reducible refine ed_lenT ?_ | with_reducible refine ed_lenL ?_ | with_reducible refine ed_lenS ?_ | with_reducible refine ed_inS ?_ | with_reducible refine ed_itT ?_ | with_reducible refine ed_itL ?_ | with_reducible refine ed_tupL ?_ | with_reducible refine ed_tupT ?_ | with_reducible refine ed_listL ?_ | with_reducible refine ed_listT ?_ | with_reducible refine ed_neg ?_ | with_reducible refine ed_max ?_ | with_reducible refine ed_min ?_ | with_reducible refine ed_intB ?_
  | with_reducible refine ev_rng1 ?_ | with_reducible refine ev_rng2 ?_)
local macro_rules | `(tactic| walk_at "sd") => `(tactic| first | rfl | assumption | (simp only [decide_eq_true_eq, decide_eq_false_iff_not, Bool.not_eq_true', Bool.not_eq_false', Bool.and_eq_true, Bool.or_eq_true, List.length_map, List.length_cons, List.length_nil, List.length_append, List.length_range] at *; omega))
local macro_rules | `(tactic| walk_at "e2") => `(tactic| first
  | walk_at "e1" | with_reducible refine ⟨_, rfl, ?_⟩ | with_reducible refine ⟨_, _, rfl, ?_⟩
  | with_reducible refine And.intro (Eq.refl (List.length _)) ?_ | with_reducible refine And.intro (Nat.le_of_ble_eq_true (n := List.length _) rfl) ?_
  | with_reducible refine And.intro (Eq.refl (_ : Sx)) (?_ : Ed _ _)
  | ((with_reducible refine And.intro ?_ (And.intro ?_ (?_ : Ev _ _))); (· rfl); (· rfl))
  | ((with_reducible refine ed_ixT ?_ ?_ ?_); (· decide); (· rfl)) | ((with_reducible refine ed_ixL ?_ ?_ ?_); (· decide); (· rfl)) | ((with_reducible refine ed_at ?_ ?_ ?_); (· decide); (· rfl))
  | ((with_reducible refine ed_modI ?_ ?_); (· first | decide | omega))
  | with_reducible exact gives_nx | ((with_reducible refine gives_rt ?_); (· rfl)) | ((with_reducible refine And.intro ?_ ?_); (· exact rfl); (· with_reducible exact Eq.refl (_ : Sx))))
local macro_rules | `(tactic| walk_at "e") => `(tactic| repeat walk_at "e2")
/-- begin a def's spec -/
local macro_rules | `(tactic| walk_at "i") => `(tactic| simp only [initS, List.map_cons, List.map_nil, List.length_cons, List.length_nil, Nat.reduceAdd, Nat.reduceSub, List.replicate, List.cons_append, List.nil_append])
/-- a known truth decides -/
local macro_rules | `(tactic| walk_at "t") => `(tactic| first | ((with_reducible refine split_t ?_ ?_); (· walk_at "sd")) | ((with_reducible refine split_t' ?_ ?_); (· walk_at "sd")))
local macro_rules | `(tactic| walk_at "f") => `(tactic| first | ((with_reducible refine split_f ?_ ?_); (· walk_at "sd")) | ((with_reducible refine split_f' ?_ ?_); (· walk_at "sd")))
/-- all that is seen in a look -/
local macro_rules | `(tactic| walk_at "v") => `(tactic| (rw [sealAll_mk (by (simp only [List.set_cons_zero, List.set_cons_succ, List.map_cons, List.map_nil, sealS_none, sealS_dat, sealS_scr, sealS_own, List.getElem?_cons_zero, List.getElem?_cons_succ, sealC_lst]; rfl)) (by (simp only [List.set_cons_zero, List.set_cons_succ, List.map_cons, List.map_nil]; rfl))]))
namespace Rl
theorem x__law_net_k05 {c : Nat} {most : Int} {cs : List D} (m0 : 0 ≤ most) (m1 : most ≤ 100) (hR : Reel c cs) (hc : 320 ≤ c) :
    ∃ d cs', m__law_net_k05 cs [.int most] = some (d, cs') ∧ ∃ p ls, d = wb p ls ∧ WbOk p ls ∧ p ≤ 24 ∧ ls.length ≤ most ∧ Reel (c - 320) cs' := by
  unfold m__law_net_k05; refine mIO_of ?_; walk_at "i"; unfold g__law_net_k05
  walk_at "e"
  refine ev_drawL ⟨_, rfl, ?_⟩
  walk_at "e"
  refine ⟨_, _, _, rfl, rfl, hR, by omega, by decide, by decide, fun v1 cs a1 b1 hR => ?_⟩
  walk_at "e"
  refine ev_drawL ⟨_, rfl, ?_⟩
  walk_at "e"
  refine ⟨_, _, _, rfl, rfl, hR, by omega, by decide, by decide, fun v2 cs a2 b2 hR => ?_⟩
  walk_at "e"
  refine ev_drawL ⟨_, rfl, ?_⟩
  walk_at "e"
  refine ⟨_, _, _, rfl, rfl, hR, by omega, by decide, by decide, fun v3 cs a3 b3 hR => ?_⟩
  walk_at "e"
  refine ev_drawL ⟨_, rfl, ?_⟩
  walk_at "e"
  refine ⟨_, _, _, rfl, rfl, hR, by omega, by decide, by decide, fun v4 cs a4 b4 hR => ?_⟩
  walk_at "e"
  refine ev_drawL ⟨_, rfl, ?_⟩
  walk_at "e"
  refine ⟨_, _, _, rfl, rfl, hR, by omega, by decide, by decide, fun v5 cs a5 b5 hR => ?_⟩
  refine ed_pick (P := fun d => ∃ n : Int, d = .int n ∧ 0 ≤ n ∧ n ≤ 24) a5 b5 (fun d hd => ?_) ?_
  · simp only [List.mem_cons, List.not_mem_nil, or_false] at hd
    rcases hd with rfl | rfl | rfl | rfl <;> exact ⟨_, rfl, by omega, by omega⟩
  rintro _ ⟨p, rfl, p0, p1⟩
  walk_at "e"
  refine ev_drawL ⟨_, rfl, ?_⟩
  walk_at "e"
  refine ⟨_, _, _, rfl, rfl, hR, by omega, by decide, by decide, fun v6 cs a6 b6 hR => ?_⟩
  walk_at "e"
  refine ev_drawL ⟨_, rfl, ?_⟩
  walk_at "e"
  refine ⟨_, _, _, rfl, rfl, hR, by omega, by decide, by decide, fun v7 cs a7 b7 hR => ?_⟩
  walk_at "e"
  refine ev_drawL ⟨_, rfl, ?_⟩
  walk_at "e"
  refine ⟨_, _, _, rfl, rfl, hR, by omega, by omega, by omega, fun v8 cs a8 b8 hR => ?_⟩
  walk_at "e"
  refine ev_drawL ⟨_, rfl, ?_⟩
  walk_at "e"
  refine ⟨_, _, _, rfl, rfl, hR, by omega, by decide, by decide, fun v9 cs a9 b9 hR => ?_⟩
  refine ed_pick (P := fun d => ∃ n : Int, d = .int n ∧ 0 ≤ n ∧ n ≤ 100) a9 b9 (fun d hd => ?_) ?_
  · simp only [List.mem_cons, List.not_mem_nil, or_false] at hd
    rcases hd with rfl | rfl | rfl <;> exact ⟨_, rfl, by omega, by omega⟩
  rintro _ ⟨many, rfl, n0, n1⟩
  walk_at "e"
  refine ev_drawL ⟨_, rfl, ?_⟩
  walk_at "e"
  refine ⟨_, _, _, rfl, rfl, hR, by omega, by decide, by decide, fun v10 cs a10 b10 hR => ?_⟩
  refine ed_pick (P := fun d => ∃ x : Str, d = .str x ∧ Sp.Letters x) a10 b10 (fun d hd => ?_) ?_
  · simp only [List.mem_cons, List.not_mem_nil, or_false] at hd
    rcases hd with rfl | rfl | rfl | rfl | rfl
    · exact ⟨_, rfl, some_letters (l := [97]) rfl (by decide) (by decide) (by decide)⟩
    · exact ⟨_, rfl, some_letters (l := [97, 98]) rfl (by decide) (by decide) (by decide)⟩
    · exact ⟨_, rfl, some_letters (l := [97, 97, 98]) rfl (by decide) (by decide) (by decide)⟩
    · exact ⟨_, rfl, some_letters (l := [97, 98, 99]) rfl (by decide) (by decide) (by decide)⟩
    · exact ⟨_, rfl, some_letters (l := [97, 98, 99, 100, 120, 121, 122]) rfl (by decide) (by decide) (by decide)⟩
  rintro _ ⟨word, rfl, hw⟩
  walk_at "e"
  refine ev_drawL ⟨_, rfl, ?_⟩
  walk_at "e"
  refine ⟨_, _, _, rfl, rfl, hR, by omega, by omega, by omega, fun v11 cs a11 b11 hR => ?_⟩
  walk_at "e"
  refine ed_mulI (mulW ⟨by omega, by omega⟩ ⟨by split <;> omega, by split <;> omega⟩) ?_
  walk_at "e"
  have hz : min many most * (if decide (0 < p) = true then 1 else 0) = if 0 < p then min many most else 0 := by
    by_cases h : 0 < p <;> simp [h]
  rw [hz]
  have hq : 0 ≤ (if 0 < p then min many most else 0) ∧ (if 0 < p then min many most else 0) ≤ most ∧ ((if 0 < p then min many most else 0) ≠ 0 → 0 < p) := by split <;> refine ⟨by omega, by omega, ?_⟩ <;> simp_all
  generalize (if 0 < p then min many most else 0) = q at hq
  obtain ⟨q0, q1, q2⟩ := hq
  refine ⟨by omega, by omega, ?_⟩
  refine eo_loopS 8 (fun i os => ∃ cs ls, os = [some (.lst cs), some (.lst (ls.map ln))] ∧ ls.length = i ∧ (∀ l ∈ ls, LnOk p l) ∧ Reel (c - 11 - 3 * i) cs) (Nat.le_of_ble_eq_true rfl) ⟨cs, [], rfl, rfl, (fun _ h => nomatch h), hR.mono (by omega)⟩ ?_ ?_
  · rintro i z x os hz ⟨cs, ls, rfl, hi, hall, hR⟩
    obtain ⟨hi2, rfl⟩ := rng_at hz
    have hp : 0 < p := q2 (by omega)
    walk_at "e"
    refine ev_app ⟨_, _, rfl, rfl, ?_⟩
    walk_at "e"
    refine ev_drawL ⟨_, rfl, ?_⟩
    walk_at "e"
    refine ⟨_, _, _, rfl, rfl, hR, by omega, by omega, by omega, fun x1 cs c1 d1 hR => ?_⟩
    walk_at "e"
    refine ev_drawL ⟨_, rfl, ?_⟩
    walk_at "e"
    refine ⟨_, _, _, rfl, rfl, hR, by omega, by omega, by omega, fun x2 cs c2 d2 hR => ?_⟩
    walk_at "e"
    refine ev_drawL ⟨_, rfl, ?_⟩
    walk_at "e"
    have hw0 := hw.1
    have hw1 := hw.2.1
    refine ⟨_, _, _, rfl, rfl, hR, by omega, by omega, by omega, fun x3 cs c3 d3 hR => ?_⟩
    refine ed_pickS (P := Let) c3 d3 hw.2.2 fun k kc => ?_
    walk_at "e"
    refine ⟨by simp; omega, ?_⟩
    refine ⟨_, _, rfl, cs, ls ++ [(x1, x2, k)], ?_, by simp; omega, ?_, hR.mono (by omega)⟩
    · rw [List.map_append]; rfl
    · intro l hl
      rcases List.mem_append.mp hl with hl | hl
      · exact hall l hl
      · rw [List.mem_singleton.mp hl]
        exact ⟨c1, by simp only; omega, c2, by simp only; omega, kc⟩
  · rintro x os ⟨cs, ls, rfl, hi, hall, hR⟩
    rw [rng_len] at hi hR
    walk_at "e"
    refine ⟨_, rfl, p, ls, rfl, ⟨p0, hall, by omega⟩, p1, by omega, hR.mono (by omega)⟩

end Rl
end Lw

set_option maxHeartbeats 16000000
namespace Lw.k07
open PySem PySem.Spec PyProof.Rows L2 RZ Fu Lw
variable [TabsC]
def topS (i : Nat) : Stmt := PySem.Challenge.pw_changeride_k07_whole_parts_under_deeds.main.body.getD i (.Pass ⟨0, 0, 0, 0⟩)
abbrev s__law_reel : Stmt := topS 32
theorem sc__law_reel : FnScope ["script", "stir", "cell", "great"] ["script"] (defScope s__law_reel) := ⟨rfl, rfl, rfl, by decide +kernel, rfl, by decide +kernel, by decide +kernel⟩
abbrev s__law_draw : Stmt := topS 33
theorem sc__law_draw : FnScope ["reel", "many", "rest", "told", "stir"] ["reel", "many"] (defScope s__law_draw) := ⟨rfl, rfl, rfl, by decide +kernel, rfl, by decide +kernel, by decide +kernel⟩
abbrev s__law_net : Stmt := topS 34
theorem sc__law_net : FnScope ["reel", "most", "some", "places", "many", "letters", "wide", "found", "k"] ["reel", "most"] (defScope s__law_net) := ⟨rfl, rfl, rfl, by decide +kernel, rfl, by decide +kernel, by decide +kernel⟩
abbrev s_hangs_on : Stmt := topS 24
theorem sc_hangs_on : FnScope ["web", "part", "line", "met", "one", "place"] ["web", "part", "line"] (defScope s_hangs_on) := ⟨rfl, rfl, rfl, by decide +kernel, rfl, by decide +kernel, by decide +kernel⟩
abbrev s_parts_of : Stmt := topS 25
theorem sc_parts_of : FnScope ["web", "found", "left", "part", "more", "line"] ["web"] (defScope s_parts_of) := ⟨rfl, rfl, rfl, by decide +kernel, rfl, by decide +kernel, by decide +kernel⟩
abbrev s_is_whole : Stmt := topS 10
theorem sc_is_whole : FnScope ["thing"] ["thing"] (defScope s_is_whole) := ⟨rfl, rfl, rfl, by decide +kernel, rfl, by decide +kernel, by decide +kernel⟩
abbrev s_need_place : Stmt := topS 16
theorem sc_need_place : FnScope ["web", "place"] ["web", "place"] (defScope s_need_place) := ⟨rfl, rfl, rfl, by decide +kernel, rfl, by decide +kernel, by decide +kernel⟩
abbrev s_all_ends : Stmt := topS 22
theorem sc_all_ends : FnScope ["web", "line", "side"] ["web"] (defScope s_all_ends) := ⟨rfl, rfl, rfl, by decide +kernel, rfl, by decide +kernel, by decide +kernel⟩
abbrev s_place_of : Stmt := topS 21
theorem sc_place_of : FnScope ["web", "end"] ["web", "end"] (defScope s_place_of) := ⟨rfl, rfl, rfl, by decide +kernel, rfl, by decide +kernel, by decide +kernel⟩
abbrev s_ends_at : Stmt := topS 23
theorem sc_ends_at : FnScope ["web", "place", "end"] ["web", "place"] (defScope s_ends_at) := ⟨rfl, rfl, rfl, by decide +kernel, rfl, by decide +kernel, by decide +kernel⟩
abbrev s__law_touching : Stmt := topS 35
theorem sc__law_touching : FnScope ["net", "parts", "place", "part", "at", "side"] ["net", "parts", "place"] (defScope s__law_touching) := ⟨rfl, rfl, rfl, by decide +kernel, rfl, by decide +kernel, by decide +kernel⟩
abbrev s_is_company : Stmt := topS 12
theorem sc_is_company : FnScope ["thing"] ["thing"] (defScope s_is_company) := ⟨rfl, rfl, rfl, by decide +kernel, rfl, by decide +kernel, by decide +kernel⟩
abbrev s_need_company : Stmt := topS 18
theorem sc_need_company : FnScope ["company"] ["company"] (defScope s_need_company) := ⟨rfl, rfl, rfl, by decide +kernel, rfl, by decide +kernel, by decide +kernel⟩
abbrev s_is_row : Stmt := topS 11
theorem sc_is_row : FnScope ["thing", "size"] ["thing", "size"] (defScope s_is_row) := ⟨rfl, rfl, rfl, by decide +kernel, rfl, by decide +kernel, by decide +kernel⟩
abbrev s_is_line_of : Stmt := topS 13
theorem sc_is_line_of : FnScope ["places", "thing", "place"] ["places", "thing"] (defScope s_is_line_of) := ⟨rfl, rfl, rfl, by decide +kernel, rfl, by decide +kernel, by decide +kernel⟩
abbrev s_web_of : Stmt := topS 14
theorem sc_web_of : FnScope ["places", "lines", "line"] ["places", "lines"] (defScope s_web_of) := ⟨rfl, rfl, rfl, by decide +kernel, rfl, by decide +kernel, by decide +kernel⟩
abbrev s_kept : Stmt := topS 15
theorem sc_kept : FnScope ["web"] ["web"] (defScope s_kept) := ⟨rfl, rfl, rfl, by decide +kernel, rfl, by decide +kernel, by decide +kernel⟩
abbrev s_with_line : Stmt := topS 26
theorem sc_with_line : FnScope ["web", "one", "other", "company", "places", "lines"] ["web", "one", "other", "company"] (defScope s_with_line) := ⟨rfl, rfl, rfl, by decide +kernel, rfl, by decide +kernel, by decide +kernel⟩
abbrev s_need_line : Stmt := topS 17
theorem sc_need_line : FnScope ["web", "line"] ["web", "line"] (defScope s_need_line) := ⟨rfl, rfl, rfl, by decide +kernel, rfl, by decide +kernel, by decide +kernel⟩
abbrev s_painted : Stmt := topS 28
theorem sc_painted : FnScope ["web", "line", "company", "places", "lines"] ["web", "line", "company"] (defScope s_painted) := ⟨rfl, rfl, rfl, by decide +kernel, rfl, by decide +kernel, by decide +kernel⟩
abbrev s_merged : Stmt := topS 29
theorem sc_merged : FnScope ["web", "company", "other", "places", "lines", "line"] ["web", "company", "other"] (defScope s_merged) := ⟨rfl, rfl, rfl, by decide +kernel, rfl, by decide +kernel, by decide +kernel⟩
abbrev s_is_end : Stmt := topS 19
theorem sc_is_end : FnScope ["web", "thing"] ["web", "thing"] (defScope s_is_end) := ⟨rfl, rfl, rfl, by decide +kernel, rfl, by decide +kernel, by decide +kernel⟩
abbrev s_need_end : Stmt := topS 20
theorem sc_need_end : FnScope ["web", "end"] ["web", "end"] (defScope s_need_end) := ⟨rfl, rfl, rfl, by decide +kernel, rfl, by decide +kernel, by decide +kernel⟩
abbrev s_loosened : Stmt := topS 30
theorem sc_loosened : FnScope ["web", "end", "line", "side", "places", "lines", "ends", "at"] ["web", "end"] (defScope s_loosened) := ⟨rfl, rfl, rfl, by decide +kernel, rfl, by decide +kernel, by decide +kernel⟩
abbrev s_without_line : Stmt := topS 27
theorem sc_without_line : FnScope ["web", "line", "places", "lines"] ["web", "line"] (defScope s_without_line) := ⟨rfl, rfl, rfl, by decide +kernel, rfl, by decide +kernel, by decide +kernel⟩
abbrev s__law_right : Stmt := topS 36
theorem sc__law_right : FnScope ["reel", "net", "places", "lines", "parts", "spot", "other", "touched", "longer", "due", "at", "more", "fewer", "part"] ["reel", "net"] (defScope s__law_right) := ⟨rfl, rfl, rfl, by decide +kernel, rfl, by decide +kernel, by decide +kernel⟩
abbrev s_law : Stmt := topS 37
theorem sc_law : FnScope ["script", "reel", "k", "places", "lines"] ["script"] (defScope s_law) := ⟨rfl, rfl, rfl, by decide +kernel, rfl, by decide +kernel, by decide +kernel⟩
def g_law : Sx → Option Out :=
  (qSeq (qOwn 1 (gCallScr 0 m__law_reel)) (qSeq (qFor (gRng1 (gCons (gBin dAdd (gC (.int 1)) (gCall dMin2 (gCons (gScrLen 0) (gCons (gC (.int 11)) gNil)))) gNil)) (sName 2) (qSeq (qAsg (sTup 2 (sCons (sName 3) (sCons (sName 4) sNil))) (gIO 1 1 m__law_net_k05 (gCons (gC (.int 58)) gNil))) (qIf (gNot (gB (gIO 1 1 m__law_right_k07 (gCons (gTup (gCons (gCall dMax2 (gCons (gVar 3) (gCons (gC (.int 1)) gNil))) (gCons (gVar 4) gNil))) gNil)))) (qRet (gC (.bool false))) qNx))) (qRet (gC (.bool true)))))
structure Tx (K : PySem.W.Frag) (mg : Str → Option Value) : Prop where
  z_all : mg "all" = none
  z_any : mg "any" = none
  z_bool : mg "bool" = none
  z_int : mg "int" = none
  z_isinstance : mg "isinstance" = none
  z_len : mg "len" = none
  z_list : mg "list" = none
  z_max : mg "max" = none
  z_min : mg "min" = none
  z_range : mg "range" = none
  z_sorted : mg "sorted" = none
  z_str : mg "str" = none
  z_sum : mg "sum" = none
  z_tuple : mg "tuple" = none
  c_LETTERS : ∃ t, mg "LETTERS" = some (.str "abcdefghijklmnopqrstuvwxyz" t)
  c_SIDES : ∃ t, mg "SIDES" = some (.int 2 t)
  d__law_reel : DefAt K mg "_law_reel" s__law_reel ["script"]
  d__law_draw : DefAt K mg "_law_draw" s__law_draw ["reel", "many"]
  d__law_net : DefAt K mg "_law_net" s__law_net ["reel", "most"]
  d_hangs_on : DefAt K mg "hangs_on" s_hangs_on ["web", "part", "line"]
  d_parts_of : DefAt K mg "parts_of" s_parts_of ["web"]
  d_is_whole : DefAt K mg "is_whole" s_is_whole ["thing"]
  d_need_place : DefAt K mg "need_place" s_need_place ["web", "place"]
  d_all_ends : DefAt K mg "all_ends" s_all_ends ["web"]
  d_place_of : DefAt K mg "place_of" s_place_of ["web", "end"]
  d_ends_at : DefAt K mg "ends_at" s_ends_at ["web", "place"]
  d__law_touching : DefAt K mg "_law_touching" s__law_touching ["net", "parts", "place"]
  d_is_company : DefAt K mg "is_company" s_is_company ["thing"]
  d_need_company : DefAt K mg "need_company" s_need_company ["company"]
  d_is_row : DefAt K mg "is_row" s_is_row ["thing", "size"]
  d_is_line_of : DefAt K mg "is_line_of" s_is_line_of ["places", "thing"]
  d_web_of : DefAt K mg "web_of" s_web_of ["places", "lines"]
  d_kept : DefAt K mg "kept" s_kept ["web"]
  d_with_line : DefAt K mg "with_line" s_with_line ["web", "one", "other", "company"]
  d_need_line : DefAt K mg "need_line" s_need_line ["web", "line"]
  d_painted : DefAt K mg "painted" s_painted ["web", "line", "company"]
  d_merged : DefAt K mg "merged" s_merged ["web", "company", "other"]
  d_is_end : DefAt K mg "is_end" s_is_end ["web", "thing"]
  d_need_end : DefAt K mg "need_end" s_need_end ["web", "end"]
  d_loosened : DefAt K mg "loosened" s_loosened ["web", "end"]
  d_without_line : DefAt K mg "without_line" s_without_line ["web", "line"]
  d__law_right : DefAt K mg "_law_right" s__law_right ["reel", "net"]
  d_law : DefAt K mg "law" s_law ["script"]
section
variable {P : Program} {w : World} {K : PySem.W.Frag} {mg : Str → Option Value} {base : Heap}
theorem has__law_reel (T : Tx K mg) : Has P w K mg base "_law_reel" 1 ["script"] (spScrN K m__law_reel) := has_scrN T.d__law_reel sc__law_reel (by rfl) (by decide) fun f cdv A outer s H E hr =>
  (ss_cons (s_set 1 sc__law_reel.nd (e_pow e_int e_int)) (ss_cons (s_for PassesOwn.never (i_any (e_scrSl 0 o_none (o_some e_int))) (g_name 2 sc__law_reel.nd) (ss_one (s_set 1 sc__law_reel.nd (e_mod (e_add (e_add (e_mul (e_var 1) (e_var 1)) (e_mod (e_var 2) e_int)) e_int) (e_sub (e_mul (e_pow e_int e_int) (e_pow e_int e_int)) e_int)))) (fun _ => trivial)) (ss_cons (s_setLc (lc1 3 [("cell", 2)] sc__law_reel.nd (i_any (e_scrSl 0 o_none (o_some e_int))) (blkOk_by (N := ["script", "stir", "cell", "great"]) (sc := defScope s__law_reel) (by decide +kernel)) (fun _ _ _ _ _ => (g_name 2 sc__law_reel.nd)) (fun _ _ _ _ _ => (ts_one (t_ge (e_var 2) (e_pow e_int e_int)))) (fun _ _ _ _ _ => (e_sub (e_var 2) (e_pow e_int e_int))))) (ss_one (s_retNew (n_lst (a_cons (e_var 3) (a_cons (e_add (n_lc [("cell", 2)] sc__law_reel.nd (i_any (e_scrSl 0 o_none (o_some e_int))) (blkOk_by (N := ["script", "stir", "cell", "great"]) (sc := defScope s__law_reel) (by decide +kernel)) (fun _ _ _ _ _ => (g_name 2 sc__law_reel.nd)) (fun _ _ _ _ _ => ts_nil) (fun _ _ _ _ _ => (e_mod (e_var 2) e_int))).e (e_lst (a_cons e_int a_nil))) (a_cons e_int (a_cons (e_var 1) a_nil))))))))))
theorem has__law_draw (T : Tx K mg) : Has P w K mg base "_law_draw" 1 ["reel", "many"] (spIO K 1 m__law_draw) := has_io T.d__law_draw sc__law_draw (by rfl) (by decide) fun f cdv A outer s H E hr =>
  (ss_cons (s_if (t_ne hr.units (e_ixO 0 e_int) (e_lst a_nil)) (ss_cons (s_set 2 sc__law_draw.nd (e_ix (e_ixO 0 e_int) e_int)) (ss_cons (s_setO 0 e_int (e_add (e_mul (e_lst (a_cons (e_div (e_var 2) (e_var 1)) a_nil)) (e_intOf T.z_int (a_cons (e_ge (e_var 2) (e_var 1)) a_nil))) (e_sl (e_ixO 0 e_int) (o_some e_int) o_none))) (ss_one (s_ret (e_mod (e_var 2) (e_var 1)))))) ss_nil) (ss_cons (s_setO 0 e_int (e_add (e_ixO 0 e_int) e_int)) (ss_cons (s_set 3 sc__law_draw.nd (e_ix (e_ixO 0 e_int) (e_mod (e_ixO 0 e_int) (e_len T.z_len (a_cons (e_ixO 0 e_int) a_nil))))) (ss_cons (s_set 4 sc__law_draw.nd (e_add (e_add (e_mul (e_ixO 0 e_int) (e_ixO 0 e_int)) (e_mul (e_add (e_var 3) e_int) e_int)) (e_mul (e_ixO 0 e_int) e_int))) (ss_cons (s_setO 0 e_int (e_mod (e_var 4) (e_sub (e_mul (e_pow e_int e_int) (e_pow e_int e_int)) e_int))) (ss_one (s_ret (e_mod (e_div (e_ixO 0 e_int) (e_pow e_int e_int)) (e_var 1)))))))))
theorem has__law_net (T : Tx K mg) : Has P w K mg base "_law_net" 2 ["reel", "most"] (spIO K 1 m__law_net_k05) := has_io T.d__law_net sc__law_net (by rfl) (by decide) fun f cdv A outer s H E hr =>
  (ss_cons (s_set 2 sc__law_net.nd (e_lst (a_cons (e_callHIO 0 (has__law_draw T) (hr.mono (by decide)) (a_cons e_int a_nil)) (a_cons (e_add e_int (e_callHIO 0 (has__law_draw T) (hr.mono (by decide)) (a_cons e_int a_nil))) (a_cons (e_add e_int (e_callHIO 0 (has__law_draw T) (hr.mono (by decide)) (a_cons e_int a_nil))) (a_cons (e_callHIO 0 (has__law_draw T) (hr.mono (by decide)) (a_cons e_int a_nil)) a_nil)))))) (ss_cons (s_set 3 sc__law_net.nd (e_ix (e_var 2) (e_callHIO 0 (has__law_draw T) (hr.mono (by decide)) (a_cons e_int a_nil)))) (ss_cons (s_set 4 sc__law_net.nd (e_ix (e_lst (a_cons (e_callHIO 0 (has__law_draw T) (hr.mono (by decide)) (a_cons e_int a_nil)) (a_cons (e_callHIO 0 (has__law_draw T) (hr.mono (by decide)) (a_cons e_int a_nil)) (a_cons (e_callHIO 0 (has__law_draw T) (hr.mono (by decide)) (a_cons (e_add (e_var 1) e_int) a_nil)) a_nil)))) (e_callHIO 0 (has__law_draw T) (hr.mono (by decide)) (a_cons e_int a_nil)))) (ss_cons (s_set 5 sc__law_net.nd (e_ix (e_lst (a_cons e_str (a_cons e_str (a_cons e_str (a_cons e_str (a_cons e_str a_nil)))))) (e_callHIO 0 (has__law_draw T) (hr.mono (by decide)) (a_cons e_int a_nil)))) (ss_cons (s_set 6 sc__law_net.nd (e_add e_int (e_callHIO 0 (has__law_draw T) (hr.mono (by decide)) (a_cons (e_max2 T.z_max (a_cons e_int (a_cons (e_var 3) a_nil))) a_nil)))) (ss_cons (s_own 7 sc__law_net.nd (n_lst a_nil)) (ss_cons (s_for0 PassesOwn.never (i0_range1 T.z_range (a_cons (e_mul (e_min2 T.z_min (a_cons (e_var 4) (a_cons (e_var 1) a_nil))) (e_intOf T.z_int (a_cons (e_gt (e_var 3) e_int) a_nil))) a_nil)) (g_name 8 sc__law_net.nd) (ss_one (s_expr (e_append 7 (e_tup (a_cons (e_callHIO 0 (has__law_draw T) (hr.mono (by decide)) (a_cons (e_var 6) a_nil)) (a_cons (e_callHIO 0 (has__law_draw T) (hr.mono (by decide)) (a_cons (e_var 6) a_nil)) (a_cons (e_ix (e_var 5) (e_callHIO 0 (has__law_draw T) (hr.mono (by decide)) (a_cons (e_len T.z_len (a_cons (e_var 5) a_nil)) a_nil))) a_nil)))))))) (ss_one (s_ret (e_tup (a_cons (e_var 3) (a_cons (e_tuple T.z_tuple (a_cons (e_var 7) a_nil)) a_nil))))))))))))
theorem has_hangs_on (T : Tx K mg) : Has P w K mg base "hangs_on" 1 ["web", "part", "line"] (spF K 3 m_hangs_on) := has_pure T.d_hangs_on sc_hangs_on (by rfl) (by decide) fun f cdv A outer s H E hr =>
  (ss_cons (s_set 3 sc_hangs_on.nd (n_lc2 [("one", 4), ("place", 5)] [5] sc_hangs_on.nd (i_any (e_var 1)) (blkOk_by (N := ["web", "part", "line", "met", "one", "place"]) (sc := defScope s_hangs_on) (by decide +kernel)) (fun _ _ _ _ _ => (g_name 4 sc_hangs_on.nd)) (fun _ _ _ _ _ => ts_nil) (fun _ _ _ _ _ => (i_any (e_sl (e_ix (e_ix (e_var 0) e_int) (e_var 4)) o_none (o_some e_int)))) (fun _ _ _ _ _ => (g_name 5 sc_hangs_on.nd)) (fun _ _ _ _ _ => ts_nil) (fun _ _ _ _ _ => (e_var 5))).e) (ss_one (s_ret (e_any T.z_any (a_cons (n_lc [("place", 5)] sc_hangs_on.nd (i_any (e_sl (e_ix (e_ix (e_var 0) e_int) (e_var 2)) o_none (o_some e_int))) (blkOk_by (N := ["web", "part", "line", "met", "one", "place"]) (sc := defScope s_hangs_on) (by decide +kernel)) (fun _ _ _ _ _ => (g_name 5 sc_hangs_on.nd)) (fun _ _ _ _ _ => ts_nil) (fun _ _ _ _ _ => (e_in (hu65 hr) (e_var 5) (e_var 3)))).e a_nil)))))
theorem has_parts_of (T : Tx K mg) : Has P w K mg base "parts_of" 2 ["web"] (spF K 1 m_parts_of) := has_pure T.d_parts_of sc_parts_of (by rfl) (by decide) fun f cdv A outer s H E hr =>
  (ss_cons (s_own 1 sc_parts_of.nd (n_lst a_nil)) (ss_cons (s_set 2 sc_parts_of.nd (n_listRng1 T.z_list T.z_range (e_len T.z_len (a_cons (e_ix (e_var 0) e_int) a_nil))).e) (ss_cons (s_while 100000 PassesOwn.never (t_ne hr.units (e_var 2) (e_lst a_nil)) (ss_cons (s_own 3 sc_parts_of.nd (n_lst a_nil)) (ss_cons (s_set 4 sc_parts_of.nd (e_sl (e_var 2) o_none (o_some e_int))) (ss_cons (s_while 100000 PassesOwn.never (t_ne hr.units (e_var 4) (e_lst a_nil)) (ss_cons (s_augL 3 sc_parts_of.nd (e_var 4)) (ss_cons (s_setLc (lc1 2 [("line", 5)] sc_parts_of.nd (i_any (e_var 2)) (blkOk_by (N := ["web", "found", "left", "part", "more", "line"]) (sc := defScope s_parts_of) (by decide +kernel)) (fun _ _ _ _ _ => (g_name 5 sc_parts_of.nd)) (fun _ _ _ _ _ => (ts_one (t_notIn (hu65 hr) (e_var 5) (e_var 4)))) (fun _ _ _ _ _ => (e_var 5)))) (ss_one (s_set 4 sc_parts_of.nd (n_view (n_lc [("line", 5)] sc_parts_of.nd (i_any (e_var 2)) (blkOk_by (N := ["web", "found", "left", "part", "more", "line"]) (sc := defScope s_parts_of) (by decide +kernel)) (fun _ _ _ _ _ => (g_name 5 sc_parts_of.nd)) (fun _ _ _ _ _ => (ts_one (t_val (e_callH (has_hangs_on T) (hr.mono (by decide)) (a_cons (e_var 0) (a_cons (e_var 3) (a_cons (e_var 5) a_nil))))))) (fun _ _ _ _ _ => (e_var 5)))).e))))) (ss_one (s_expr (e_append 1 (e_sorted hr T.z_sorted (a_cons (e_var 3) a_nil))))))))) (ss_one (s_ret (e_var 1))))))
theorem has_is_whole (T : Tx K mg) : Has P w K mg base "is_whole" 1 ["thing"] (spF K 1 m_is_whole) := has_pure T.d_is_whole sc_is_whole (by rfl) (by decide) fun f cdv A outer s H E hr =>
  (ss_one (s_ret (e_and (e_isi T.z_isinstance T.z_int (by decide +kernel) kit_int (e_var 0)) (e_and (e_not (e_isi T.z_isinstance T.z_bool (by decide +kernel) kit_bool (e_var 0))) (e_one (e_ge (e_var 0) e_int))))))
theorem has_need_place (T : Tx K mg) : Has P w K mg base "need_place" 2 ["web", "place"] (spF K 2 m_need_place) := has_pure T.d_need_place sc_need_place (by rfl) (by decide) fun f cdv A outer s H E hr =>
  (ss_one (s_if (t_w (w_or (t_not (t_val (e_callH (has_is_whole T) (hr.mono (by decide)) (a_cons (e_var 1) a_nil)))) (w_or1 (t_ge (e_var 1) (e_ix (e_var 0) e_int))))) (ss_one s_never) ss_nil))
theorem has_all_ends (T : Tx K mg) : Has P w K mg base "all_ends" 1 ["web"] (spF K 1 m_all_ends) := has_pure T.d_all_ends sc_all_ends (by rfl) (by decide) fun f cdv A outer s H E hr =>
  (ss_one (s_ret (n_lc2 [("line", 1), ("side", 2)] [2] sc_all_ends.nd (i_range1 T.z_range (a_cons (e_len T.z_len (a_cons (e_ix (e_var 0) e_int) a_nil)) a_nil)) (blkOk_by (N := ["web", "line", "side"]) (sc := defScope s_all_ends) (by decide +kernel)) (fun _ _ _ _ _ => (g_name 1 sc_all_ends.nd)) (fun _ _ _ _ _ => ts_nil) (fun _ _ _ _ _ => (i_range1 T.z_range (a_cons (e_gintE T.c_SIDES) a_nil))) (fun _ _ _ _ _ => (g_name 2 sc_all_ends.nd)) (fun _ _ _ _ _ => ts_nil) (fun _ _ _ _ _ => (e_tup (a_cons (e_var 1) (a_cons (e_var 2) a_nil))))).e))
theorem has_place_of (T : Tx K mg) : Has P w K mg base "place_of" 1 ["web", "end"] (spF K 2 m_place_of) := has_pure T.d_place_of sc_place_of (by rfl) (by decide) fun f cdv A outer s H E hr =>
  (ss_one (s_ret (e_ix (e_ix (e_ix (e_var 0) e_int) (e_ix (e_var 1) e_int)) (e_ix (e_var 1) e_int))))
theorem has_ends_at (T : Tx K mg) : Has P w K mg base "ends_at" 3 ["web", "place"] (spF K 2 m_ends_at) := has_pure T.d_ends_at sc_ends_at (by rfl) (by decide) fun f cdv A outer s H E hr =>
  (ss_cons (s_expr (e_callH (has_need_place T) (hr.mono (by decide)) (a_cons (e_var 0) (a_cons (e_var 1) a_nil)))) (ss_one (s_ret (n_lc [("end", 2)] sc_ends_at.nd (i_any (e_callH (has_all_ends T) (hr.mono (by decide)) (a_cons (e_var 0) a_nil))) (blkOk_by (N := ["web", "place", "end"]) (sc := defScope s_ends_at) (by decide +kernel)) (fun _ _ _ _ _ => (g_name 2 sc_ends_at.nd)) (fun _ _ _ _ _ => (ts_one (t_eq hr.units (e_callH (has_place_of T) (hr.mono (by decide)) (a_cons (e_var 0) (a_cons (e_var 2) a_nil))) (e_var 1)))) (fun _ _ _ _ _ => (e_var 2))).e)))
theorem has__law_touching (T : Tx K mg) : Has P w K mg base "_law_touching" 4 ["net", "parts", "place"] (spF K 3 m__law_touching) := has_pure T.d__law_touching sc__law_touching (by rfl) (by decide) fun f cdv A outer s H E hr =>
  (ss_one (s_ret (n_lc [("part", 3)] sc__law_touching.nd (i_any (e_var 1)) (blkOk_by (N := ["net", "parts", "place", "part", "at", "side"]) (sc := defScope s__law_touching) (by decide +kernel)) (fun _ _ _ _ _ => (g_name 3 sc__law_touching.nd)) (fun _ _ _ _ _ => (ts_one (t_ne hr.units (n_lc [("at", 4), ("side", 5)] sc__law_touching.nd (i_any (e_callH (has_ends_at T) (hr.mono (by decide)) (a_cons (e_var 0) (a_cons (e_var 2) a_nil)))) (blkOk_by (N := ["net", "parts", "place", "part", "at", "side"]) (by first | decide +kernel | exact rfl)) (fun _ _ _ _ _ => (g_tup (gs_cons (g_name 4 sc__law_touching.nd) (gs_cons (g_name 5 sc__law_touching.nd) gs_nil)))) (fun _ _ _ _ _ => (ts_one (t_in (hu65 hr) (e_var 4) (e_var 3)))) (fun _ _ _ _ _ => (e_var 4))).e (e_lst a_nil)))) (fun _ _ _ _ _ => (e_var 3))).e))
theorem has_is_company (T : Tx K mg) : Has P w K mg base "is_company" 1 ["thing"] (spF K 1 m_is_company) := has_pure T.d_is_company sc_is_company (by rfl) (by decide) fun f cdv A outer s H E hr =>
  (ss_one (s_ret (e_and (e_isi T.z_isinstance T.z_str (by decide +kernel) kit_str (e_var 0)) (e_and (e_eq hr.units (e_len T.z_len (a_cons (e_var 0) a_nil)) e_int) (e_one (e_in (hu65 hr) (e_var 0) (e_gstrE T.c_LETTERS)))))))
theorem has_need_company (T : Tx K mg) : Has P w K mg base "need_company" 2 ["company"] (spF K 1 m_need_company) := has_pure T.d_need_company sc_need_company (by rfl) (by decide) fun f cdv A outer s H E hr =>
  (ss_one (s_if (t_not (t_val (e_callH (has_is_company T) (hr.mono (by decide)) (a_cons (e_var 0) a_nil)))) (ss_one s_never) ss_nil))
theorem has_is_row (T : Tx K mg) : Has P w K mg base "is_row" 1 ["thing", "size"] (spF K 2 m_is_row) := has_pure T.d_is_row sc_is_row (by rfl) (by decide) fun f cdv A outer s H E hr =>
  (ss_one (s_ret (e_and (e_isi2 T.z_isinstance T.z_list (by decide +kernel) kit_list T.z_tuple (by decide +kernel) kit_tuple (e_var 0)) (e_one (e_eq hr.units (e_len T.z_len (a_cons (e_var 0) a_nil)) (e_var 1))))))
theorem has_is_line_of (T : Tx K mg) : Has P w K mg base "is_line_of" 2 ["places", "thing"] (spF K 2 m_is_line_of) := has_pure T.d_is_line_of sc_is_line_of (by rfl) (by decide) fun f cdv A outer s H E hr =>
  (ss_cons (s_if (t_w (w_or (t_not (t_val (e_callH (has_is_row T) (hr.mono (by decide)) (a_cons (e_var 1) (a_cons e_int a_nil))))) (w_or1 (t_not (t_val (e_callH (has_is_company T) (hr.mono (by decide)) (a_cons (e_ix (e_var 1) e_int) a_nil))))))) (ss_one (s_ret e_bl)) ss_nil) (ss_one (s_ret (e_all T.z_all (a_cons (n_lc [("place", 2)] sc_is_line_of.nd (i_any (e_sl (e_var 1) o_none (o_some e_int))) (blkOk_by (N := ["places", "thing", "place"]) (sc := defScope s_is_line_of) (by decide +kernel)) (fun _ _ _ _ _ => (g_name 2 sc_is_line_of.nd)) (fun _ _ _ _ _ => ts_nil) (fun _ _ _ _ _ => (e_and (e_callH (has_is_whole T) (hr.mono (by decide)) (a_cons (e_var 2) a_nil)) (e_one (e_lt (e_var 2) (e_var 0)))))).e a_nil)))))
theorem has_web_of (T : Tx K mg) : Has P w K mg base "web_of" 3 ["places", "lines"] (spF K 2 m_web_of) := has_pure T.d_web_of sc_web_of (by rfl) (by decide) fun f cdv A outer s H E hr =>
  (ss_cons (s_if (t_w (w_or (t_not (t_val (e_callH (has_is_whole T) (hr.mono (by decide)) (a_cons (e_var 0) a_nil)))) (w_or1 (t_not (t_val (e_isi2 T.z_isinstance T.z_list (by decide +kernel) kit_list T.z_tuple (by decide +kernel) kit_tuple (e_var 1))))))) (ss_one s_never) ss_nil) (ss_cons (s_if (t_not (t_val (e_all T.z_all (a_cons (n_lc [("line", 2)] sc_web_of.nd (i_any (e_var 1)) (blkOk_by (N := ["places", "lines", "line"]) (sc := defScope s_web_of) (by decide +kernel)) (fun _ _ _ _ _ => (g_name 2 sc_web_of.nd)) (fun _ _ _ _ _ => ts_nil) (fun _ _ _ _ _ => (e_callH (has_is_line_of T) (hr.mono (by decide)) (a_cons (e_var 0) (a_cons (e_var 2) a_nil))))).e a_nil)))) (ss_one s_never) ss_nil) (ss_one (s_ret (e_tup (a_cons (e_var 0) (a_cons (e_tuple T.z_tuple (a_cons (n_lc [("line", 2)] sc_web_of.nd (i_any (e_var 1)) (blkOk_by (N := ["places", "lines", "line"]) (sc := defScope s_web_of) (by decide +kernel)) (fun _ _ _ _ _ => (g_name 2 sc_web_of.nd)) (fun _ _ _ _ _ => ts_nil) (fun _ _ _ _ _ => (e_tuple T.z_tuple (a_cons (e_var 2) a_nil)))).e a_nil)) a_nil)))))))
theorem has_kept (T : Tx K mg) : Has P w K mg base "kept" 4 ["web"] (spF K 1 m_kept) := has_pure T.d_kept sc_kept (by rfl) (by decide) fun f cdv A outer s H E hr =>
  (ss_one (s_ret (e_callH (has_web_of T) (hr.mono (by decide)) (a_cons (e_ix (e_var 0) e_int) (a_cons (e_ix (e_var 0) e_int) a_nil)))))
theorem has_with_line (T : Tx K mg) : Has P w K mg base "with_line" 5 ["web", "one", "other", "company"] (spF K 4 m_with_line) := has_pure T.d_with_line sc_with_line (by rfl) (by decide) fun f cdv A outer s H E hr =>
  (ss_cons (s_expr (e_callH (has_need_place T) (hr.mono (by decide)) (a_cons (e_var 0) (a_cons (e_var 1) a_nil)))) (ss_cons (s_expr (e_callH (has_need_place T) (hr.mono (by decide)) (a_cons (e_var 0) (a_cons (e_var 2) a_nil)))) (ss_cons (s_expr (e_callH (has_need_company T) (hr.mono (by decide)) (a_cons (e_var 3) a_nil))) (ss_cons (s_asg (g_tup (gs_cons (g_name 4 sc_with_line.nd) (gs_cons (g_name 5 sc_with_line.nd) gs_nil))) (e_callH (has_kept T) (hr.mono (by decide)) (a_cons (e_var 0) a_nil))) (ss_one (s_ret (e_tup (a_cons (e_var 4) (a_cons (e_add (e_var 5) (e_tup (a_cons (e_tup (a_cons (e_var 1) (a_cons (e_var 2) (a_cons (e_var 3) a_nil)))) a_nil))) a_nil)))))))))
theorem has_need_line (T : Tx K mg) : Has P w K mg base "need_line" 2 ["web", "line"] (spF K 2 m_need_line) := has_pure T.d_need_line sc_need_line (by rfl) (by decide) fun f cdv A outer s H E hr =>
  (ss_one (s_if (t_w (w_or (t_not (t_val (e_callH (has_is_whole T) (hr.mono (by decide)) (a_cons (e_var 1) a_nil)))) (w_or1 (t_ge (e_var 1) (e_len T.z_len (a_cons (e_ix (e_var 0) e_int) a_nil)))))) (ss_one s_never) ss_nil))
theorem has_painted (T : Tx K mg) : Has P w K mg base "painted" 5 ["web", "line", "company"] (spF K 3 m_painted) := has_pure T.d_painted sc_painted (by rfl) (by decide) fun f cdv A outer s H E hr =>
  (ss_cons (s_expr (e_callH (has_need_line T) (hr.mono (by decide)) (a_cons (e_var 0) (a_cons (e_var 1) a_nil)))) (ss_cons (s_expr (e_callH (has_need_company T) (hr.mono (by decide)) (a_cons (e_var 2) a_nil))) (ss_cons (s_asg (g_tup (gs_cons (g_name 3 sc_painted.nd) (gs_cons (g_name 4 sc_painted.nd) gs_nil))) (e_callH (has_kept T) (hr.mono (by decide)) (a_cons (e_var 0) a_nil))) (ss_one (s_ret (e_tup (a_cons (e_var 3) (a_cons (e_add (e_add (e_sl (e_var 4) o_none (o_some (e_var 1))) (e_tup (a_cons (e_add (e_sl (e_ix (e_var 4) (e_var 1)) o_none (o_some e_int)) (e_tup (a_cons (e_var 2) a_nil))) a_nil))) (e_sl (e_var 4) (o_some (e_add (e_var 1) e_int)) o_none)) a_nil))))))))
theorem has_merged (T : Tx K mg) : Has P w K mg base "merged" 5 ["web", "company", "other"] (spF K 3 m_merged) := has_pure T.d_merged sc_merged (by rfl) (by decide) fun f cdv A outer s H E hr =>
  (ss_cons (s_expr (e_callH (has_need_company T) (hr.mono (by decide)) (a_cons (e_var 1) a_nil))) (ss_cons (s_expr (e_callH (has_need_company T) (hr.mono (by decide)) (a_cons (e_var 2) a_nil))) (ss_cons (s_asg (g_tup (gs_cons (g_name 3 sc_merged.nd) (gs_cons (g_name 4 sc_merged.nd) gs_nil))) (e_callH (has_kept T) (hr.mono (by decide)) (a_cons (e_var 0) a_nil))) (ss_one (s_ret (e_tup (a_cons (e_var 3) (a_cons (e_tuple T.z_tuple (a_cons (n_lc [("line", 5)] sc_merged.nd (i_any (e_var 4)) (blkOk_by (N := ["web", "company", "other", "places", "lines", "line"]) (sc := defScope s_merged) (by decide +kernel)) (fun _ _ _ _ _ => (g_name 5 sc_merged.nd)) (fun _ _ _ _ _ => ts_nil) (fun _ _ _ _ _ => (e_add (e_sl (e_var 5) o_none (o_some e_int)) (e_tup (a_cons (e_if (t_eq hr.units (e_ix (e_var 5) e_int) (e_var 1)) (e_var 2) (e_ix (e_var 5) e_int)) a_nil))))).e a_nil)) a_nil))))))))
theorem has_is_end (T : Tx K mg) : Has P w K mg base "is_end" 2 ["web", "thing"] (spF K 2 m_is_end) := has_pure T.d_is_end sc_is_end (by rfl) (by decide) fun f cdv A outer s H E hr =>
  (ss_cons (s_if (t_w (w_or (t_not (t_val (e_callH (has_is_row T) (hr.mono (by decide)) (a_cons (e_var 1) (a_cons e_int a_nil))))) (w_or (t_not (t_val (e_callH (has_is_whole T) (hr.mono (by decide)) (a_cons (e_ix (e_var 1) e_int) a_nil)))) (w_or1 (t_not (t_val (e_callH (has_is_whole T) (hr.mono (by decide)) (a_cons (e_ix (e_var 1) e_int) a_nil)))))))) (ss_one (s_ret e_bl)) ss_nil) (ss_one (s_ret (e_and (e_lt (e_ix (e_var 1) e_int) (e_len T.z_len (a_cons (e_ix (e_var 0) e_int) a_nil))) (e_one (e_lt (e_ix (e_var 1) e_int) (e_gintE T.c_SIDES)))))))
theorem has_need_end (T : Tx K mg) : Has P w K mg base "need_end" 3 ["web", "end"] (spF K 2 m_need_end) := has_pure T.d_need_end sc_need_end (by rfl) (by decide) fun f cdv A outer s H E hr =>
  (ss_cons (s_if (t_not (t_val (e_callH (has_is_end T) (hr.mono (by decide)) (a_cons (e_var 0) (a_cons (e_var 1) a_nil))))) (ss_one s_never) ss_nil) (ss_one (s_ret (e_tup (a_cons (e_ix (e_var 1) e_int) (a_cons (e_ix (e_var 1) e_int) a_nil))))))
theorem has_loosened (T : Tx K mg) : Has P w K mg base "loosened" 5 ["web", "end"] (spF K 2 m_loosened) := has_pure T.d_loosened sc_loosened (by rfl) (by decide) fun f cdv A outer s H E hr =>
  (ss_cons (s_asg (g_tup (gs_cons (g_name 2 sc_loosened.nd) (gs_cons (g_name 3 sc_loosened.nd) gs_nil))) (e_callH (has_need_end T) (hr.mono (by decide)) (a_cons (e_var 0) (a_cons (e_var 1) a_nil)))) (ss_cons (s_asg (g_tup (gs_cons (g_name 4 sc_loosened.nd) (gs_cons (g_name 5 sc_loosened.nd) gs_nil))) (e_callH (has_kept T) (hr.mono (by decide)) (a_cons (e_var 0) a_nil))) (ss_cons (s_setLc (lc1 6 [("at", 7)] sc_loosened.nd (i_range1 T.z_range (a_cons (e_gintE T.c_SIDES) a_nil)) (blkOk_by (N := ["web", "end", "line", "side", "places", "lines", "ends", "at"]) (sc := defScope s_loosened) (by decide +kernel)) (fun _ _ _ _ _ => (g_name 7 sc_loosened.nd)) (fun _ _ _ _ _ => ts_nil) (fun _ _ _ _ _ => (e_if (t_eq hr.units (e_var 7) (e_var 3)) (e_var 4) (e_ix (e_ix (e_var 5) (e_var 2)) (e_var 7)))))) (ss_one (s_ret (e_tup (a_cons (e_add (e_var 4) e_int) (a_cons (e_add (e_add (e_sl (e_var 5) o_none (o_some (e_var 2))) (e_tup (a_cons (e_tup (a_cons (e_ix (e_var 6) e_int) (a_cons (e_ix (e_var 6) e_int) (a_cons (e_ix (e_ix (e_var 5) (e_var 2)) e_int) a_nil)))) a_nil))) (e_sl (e_var 5) (o_some (e_add (e_var 2) e_int)) o_none)) a_nil))))))))
theorem has_without_line (T : Tx K mg) : Has P w K mg base "without_line" 5 ["web", "line"] (spF K 2 m_without_line) := has_pure T.d_without_line sc_without_line (by rfl) (by decide) fun f cdv A outer s H E hr =>
  (ss_cons (s_expr (e_callH (has_need_line T) (hr.mono (by decide)) (a_cons (e_var 0) (a_cons (e_var 1) a_nil)))) (ss_cons (s_asg (g_tup (gs_cons (g_name 2 sc_without_line.nd) (gs_cons (g_name 3 sc_without_line.nd) gs_nil))) (e_callH (has_kept T) (hr.mono (by decide)) (a_cons (e_var 0) a_nil))) (ss_one (s_ret (e_tup (a_cons (e_var 2) (a_cons (e_add (e_sl (e_var 3) o_none (o_some (e_var 1))) (e_sl (e_var 3) (o_some (e_add (e_var 1) e_int)) o_none)) a_nil)))))))
theorem has__law_right (T : Tx K mg) : Has P w K mg base "_law_right" 6 ["reel", "net"] (spIO K 1 m__law_right_k07) := has_io T.d__law_right sc__law_right (by rfl) (by decide) fun f cdv A outer s H E hr =>
  (ss_cons (s_asg (g_tup (gs_cons (g_name 2 sc__law_right.nd) (gs_cons (g_name 3 sc__law_right.nd) gs_nil))) (e_var 1)) (ss_cons (s_set 4 sc__law_right.nd (e_callH (has_parts_of T) (hr.mono (by decide)) (a_cons (e_var 1) a_nil))) (ss_cons (s_if (t_w (w_or (t_ne hr.units (e_sorted hr T.z_sorted (a_cons (e_sumL T.z_sum (a_cons (e_var 4) (a_cons (e_lst a_nil) a_nil))) a_nil)) (n_listRng1 T.z_list T.z_range (e_len T.z_len (a_cons (e_var 3) a_nil))).e) (w_or1 (t_ne hr.units (e_var 4) (e_sorted hr T.z_sorted (a_cons (e_var 4) a_nil)))))) (ss_one (s_ret e_bl)) ss_nil) (ss_cons (s_par 5 6 sc__law_right.nd (a_cons (e_callHIO 0 (has__law_draw T) (hr.mono (by decide)) (a_cons (e_var 2) a_nil)) (a_cons (e_callHIO 0 (has__law_draw T) (hr.mono (by decide)) (a_cons (e_var 2) a_nil)) a_nil))) (ss_cons (s_set 7 sc__law_right.nd (e_callH (has__law_touching T) (hr.mono (by decide)) (a_cons (e_var 1) (a_cons (e_var 4) (a_cons (e_var 5) a_nil))))) (ss_cons (s_set 7 sc__law_right.nd (e_add (e_var 7) (n_lc [("part", 13)] sc__law_right.nd (i_any (e_callH (has__law_touching T) (hr.mono (by decide)) (a_cons (e_var 1) (a_cons (e_var 4) (a_cons (e_var 6) a_nil))))) (blkOk_by (N := ["reel", "net", "places", "lines", "parts", "spot", "other", "touched", "longer", "due", "at", "more", "fewer", "part"]) (sc := defScope s__law_right) (by decide +kernel)) (fun _ _ _ _ _ => (g_name 13 sc__law_right.nd)) (fun _ _ _ _ _ => (ts_one (t_notIn (hu65 hr) (e_var 13) (e_var 7)))) (fun _ _ _ _ _ => (e_var 13))).e)) (ss_cons (s_set 8 sc__law_right.nd (e_callH (has_parts_of T) (hr.mono (by decide)) (a_cons (e_callH (has_with_line T) (hr.mono (by decide)) (a_cons (e_var 1) (a_cons (e_var 5) (a_cons (e_var 6) (a_cons (e_ix e_str (e_callHIO 0 (has__law_draw T) (hr.mono (by decide)) (a_cons e_int a_nil))) a_nil))))) a_nil))) (ss_cons (s_setLc (lc1 9 [("part", 13)] sc__law_right.nd (i_any (e_var 4)) (blkOk_by (N := ["reel", "net", "places", "lines", "parts", "spot", "other", "touched", "longer", "due", "at", "more", "fewer", "part"]) (sc := defScope s__law_right) (by decide +kernel)) (fun _ _ _ _ _ => (g_name 13 sc__law_right.nd)) (fun _ _ _ _ _ => (ts_one (t_notIn (hu65 hr) (e_var 13) (e_var 7)))) (fun _ _ _ _ _ => (e_var 13)))) (ss_cons (s_if (t_ne hr.units (e_var 8) (e_sorted hr T.z_sorted (a_cons (e_add (e_var 9) (e_lst (a_cons (e_sorted hr T.z_sorted (a_cons (e_add (e_sumL T.z_sum (a_cons (e_var 7) (a_cons (e_lst a_nil) a_nil))) (e_lst (a_cons (e_len T.z_len (a_cons (e_var 3) a_nil)) a_nil))) a_nil)) a_nil))) a_nil))) (ss_one (s_ret e_bl)) ss_nil) (ss_cons (s_if (t_eq hr.units (e_var 3) (e_tup a_nil)) (ss_one (s_ret e_bl)) ss_nil) (ss_cons (s_set 10 sc__law_right.nd (e_callHIO 0 (has__law_draw T) (hr.mono (by decide)) (a_cons (e_len T.z_len (a_cons (e_var 3) a_nil)) a_nil))) (ss_cons (s_if (t_w (w_or (t_ne hr.units (e_callH (has_parts_of T) (hr.mono (by decide)) (a_cons (e_callH (has_painted T) (hr.mono (by decide)) (a_cons (e_var 1) (a_cons (e_var 10) (a_cons e_str a_nil)))) a_nil)) (e_var 4)) (w_or1 (t_ne hr.units (e_callH (has_parts_of T) (hr.mono (by decide)) (a_cons (e_callH (has_merged T) (hr.mono (by decide)) (a_cons (e_var 1) (a_cons e_str (a_cons e_str a_nil)))) a_nil)) (e_var 4))))) (ss_one (s_ret e_bl)) ss_nil) (ss_cons (s_set 11 sc__law_right.nd (e_sub (e_len T.z_len (a_cons (e_callH (has_parts_of T) (hr.mono (by decide)) (a_cons (e_callH (has_loosened T) (hr.mono (by decide)) (a_cons (e_var 1) (a_cons (e_tup (a_cons (e_var 10) (a_cons (e_callHIO 0 (has__law_draw T) (hr.mono (by decide)) (a_cons e_int a_nil)) a_nil))) a_nil))) a_nil)) a_nil)) (e_len T.z_len (a_cons (e_var 4) a_nil)))) (ss_cons (s_set 12 sc__law_right.nd (e_sub (e_len T.z_len (a_cons (e_callH (has_parts_of T) (hr.mono (by decide)) (a_cons (e_callH (has_without_line T) (hr.mono (by decide)) (a_cons (e_var 1) (a_cons (e_var 10) a_nil))) a_nil)) a_nil)) (e_len T.z_len (a_cons (e_var 4) a_nil)))) (ss_one (s_ret (e_and (e_in (hu65 hr) (e_var 11) (e_lst (a_cons e_int (a_cons e_int a_nil)))) (e_one (e_in (hu65 hr) (e_var 12) (e_lst (a_cons (e_neg e_int) (a_cons e_int (a_cons e_int a_nil)))))))))))))))))))))))
theorem law_body (T : Tx K mg) : Body P w K mg base ["script", "reel", "k", "places", "lines"] "law" s_law 6 AnyB g_law := fun f cdv A outer s H E hr =>
  (ss_cons (s_own 1 sc_law.nd (n_callScr 0 (has__law_reel T) (hr.mono (by decide)))) (ss_cons (s_for0 PassesOwn.never (i0_range1 T.z_range (a_cons (e_add e_int (e_min2 T.z_min (a_cons (e_scrLen 0 T.z_len) (a_cons e_int a_nil)))) a_nil)) (g_name 2 sc_law.nd) (ss_cons (s_asg (g_tup (gs_cons (g_name 3 sc_law.nd) (gs_cons (g_name 4 sc_law.nd) gs_nil))) (e_callHIO 1 (has__law_net T) (hr.mono (by decide)) (a_cons e_int a_nil))) (ss_one (s_if (t_not (t_val (e_callHIO 1 (has__law_right T) (hr.mono (by decide)) (a_cons (e_tup (a_cons (e_max2 T.z_max (a_cons (e_var 3) (a_cons e_int a_nil))) (a_cons (e_var 4) a_nil))) a_nil)))) (ss_one (s_ret e_bl)) ss_nil)))) (ss_one (s_ret e_bl))))
end
end Lw.k07

set_option maxHeartbeats 4000000
namespace Lw.k07
open PySem Fu Lw
local macro_rules | `(tactic| walk_at "e1") => `(tactic| first
  | with_reducible refine eo_seq ?_ | (with_reducible refine then_nx' ?_; refine ⟨?_, ?_, ?_⟩; rotate_left; · (try dsimp only [List.set, List.length_cons, List.length_nil, List.cons_append, List.nil_append, Nat.zero_add, Nat.reduceAdd]); exact rfl) | with_reducible refine then_rt ?_ | with_reducible refine eo_if ?_ | with_reducible refine eo_ret ?_ | with_reducible refine eo_set ?_ | with_reducible refine eo_asg ?_ | with_reducible refine eo_drop ?_ | with_reducible refine eo_nx ?_ | with_reducible refine eo_par ?_ | with_reducible refine eo_own ?_ | with_reducible refine eo_retN ?_ | with_reducible refine eo_for ?_ | with_reducible refine eo_retO ?_
  | with_reducible refine ev_c ?_ | (with_reducible refine ev_var ?_; refine ⟨_, rfl, ?_⟩) | with_reducible refine ev_bin ?_ | with_reducible refine ev_un ?_ | with_reducible refine ev_nil ?_ | with_reducible refine ev_cons ?_
  | with_reducible refine ev_tup ?_ | with_reducible refine ev_lst ?_ | with_reducible refine ev_call ?_ | with_reducible refine ev_callF ?_ | with_reducible refine ev_isi ?_ | with_reducible refine ev_isi2 ?_ | with_reducible refine ev_andV ?_ | with_reducible refine ev_orV ?_ | with_reducible refine ev_notV ?_
  | with_reducible refine ev_B ?_ | with_reducible refine ev_and ?_ | with_reducible refine ev_or ?_ | with_reducible refine ev_not ?_ | with_reducible refine ev_yes ?_ | with_reducible refine ev_if ?_ | with_reducible refine ev_no ?_ | with_reducible refine ev_so ?_ | with_reducible refine ev_sl ?_ | with_reducible refine ev_items ?_
  | (with_reducible refine ev_ixO ?_; refine ⟨_, _, rfl, rfl, ?_⟩) | (with_reducible refine ev_varO ?_; refine ⟨_, _, rfl, rfl, ?_⟩) | (with_reducible refine ev_lenO ?_; refine ⟨_, _, rfl, rfl, ?_⟩) | (with_reducible refine ev_scrSl ?_; refine ⟨_, rfl, ?_⟩) | (with_reducible refine ev_scrLen ?_; refine ⟨_, rfl, ?_⟩) | (with_reducible refine ev_callScr ?_; refine ⟨_, rfl, ?_⟩) | (with_reducible refine ev_OL ?_; refine ⟨_, _, rfl, rfl, ?_⟩) | with_reducible refine ev_OR ?_ | with_reducible refine ev_rep ?_ | with_reducible refine ev_listRng1 ?_ | with_reducible refine eo_setO ?_
  | with_reducible refine es_name ?_ | with_reducible refine es_tup2 ?_ | with_reducible refine es_tup3 ?_
  | with_reducible refine ed_addI ?_ | with_reducible refine ed_subI ?_ | with_reducible refine ed_cmp ?_ | with_reducible refine ed_eqI ?_ | with_reducible refine ed_neI ?_ | with_reducible refine ed_slT ?_ | with_reducible refine ed_slL ?_ | with_reducible refine ed_lenT ?_ | with_reducible refine ed_lenL ?_ | with_reducible refine ed_lenS ?_ | with_reducible refine ed_inS ?_ | with_reducible refine ed_itT ?_ | with_reducible refine ed_itL ?_ | with_reducible refine ed_tupL ?_ | with_reducible refine ed_tupT ?_ | with_reducible refine ed_listL ?_ | with_reducible refine ed_listT ?_ | with_reducible refine ed_neg ?_ | with_reducible refine ed_max ?_ | with_reducible refine ed_min ?_ | with_reducible refine ed_intB ?_
  | with_reducible refine ev_rng1 ?_ | with_reducible refine ev_rng2 ?_)
local macro_rules | `(tactic| walk_at "sd") => `(tactic| first | rfl | assumption | (simp only [decide_eq_true_eq, decide_eq_false_iff_not, Bool.not_eq_true', Bool.not_eq_false', Bool.and_eq_true, Bool.or_eq_true, List.length_map, List.length_cons, List.length_nil, List.length_append, List.length_range] at *; omega))
local macro_rules | `(tactic| walk_at "e2") => `(tactic| first
  | walk_at "e1" | with_reducible refine ⟨_, rfl, ?_⟩ | with_reducible refine ⟨_, _, rfl, ?_⟩
  | with_reducible refine And.intro (Eq.refl (List.length _)) ?_ | with_reducible refine And.intro (Nat.le_of_ble_eq_true (n := List.length _) rfl) ?_
  | with_reducible refine And.intro (Eq.refl (_ : Sx)) (?_ : Ed _ _)
  | ((with_reducible refine And.intro ?_ (And.intro ?_ (?_ : Ev _ _))); (· rfl); (· rfl))
  | ((with_reducible refine ed_ixTx ?_); refine ⟨_, by decide, rfl, ?_⟩) | ((with_reducible refine ed_ixLx ?_); refine ⟨_, by decide, rfl, ?_⟩) | ((with_reducible refine es_star ?_))
  | with_reducible refine an_tt ?_ | with_reducible refine an_ft ?_ | with_reducible refine an_tf ?_ | with_reducible refine an_ff ?_ | with_reducible refine an_ntt ?_ | with_reducible refine an_nft ?_ | with_reducible refine an_ntf ?_ | with_reducible refine an_nff ?_
  | ((with_reducible refine ed_dneSelf ?_)) | ((with_reducible refine ed_deqSelf ?_))
  | ((with_reducible refine ed_ixT ?_ ?_ ?_); (· decide); (· rfl)) | ((with_reducible refine ed_ixL ?_ ?_ ?_); (· decide); (· rfl)) | ((with_reducible refine ed_at ?_ ?_ ?_); (· decide); (· rfl))
  | ((with_reducible refine ed_modI ?_ ?_); (· first | decide | omega))
  | with_reducible exact gives_nx | ((with_reducible refine gives_rt ?_); (· rfl)) | ((with_reducible refine And.intro ?_ ?_); (· exact rfl); (· with_reducible exact Eq.refl (_ : Sx))))
local macro_rules | `(tactic| walk_at "e") => `(tactic| repeat walk_at "e2")
/-- begin a def's spec -/
local macro_rules | `(tactic| walk_at "i") => `(tactic| simp only [initS, List.map_cons, List.map_nil, List.length_cons, List.length_nil, Nat.reduceAdd, Nat.reduceSub, List.replicate, List.cons_append, List.nil_append])
/-- a known truth decides -/
local macro_rules | `(tactic| walk_at "t") => `(tactic| first | ((with_reducible refine split_t ?_ ?_); (· walk_at "sd")) | ((with_reducible refine split_t' ?_ ?_); (· walk_at "sd")))
local macro_rules | `(tactic| walk_at "f") => `(tactic| first | ((with_reducible refine split_f ?_ ?_); (· walk_at "sd")) | ((with_reducible refine split_f' ?_ ?_); (· walk_at "sd")))
/-- all that is seen in a look -/
local macro_rules | `(tactic| walk_at "v") => `(tactic| (rw [sealAll_mk (by (simp only [List.set_cons_zero, List.set_cons_succ, List.map_cons, List.map_nil, sealS_none, sealS_dat, sealS_scr, sealS_own, List.getElem?_cons_zero, List.getElem?_cons_succ, sealC_lst]; rfl)) (by (simp only [List.set_cons_zero, List.set_cons_succ, List.map_cons, List.map_nil]; rfl))]))
open Pt Gr Rl
theorem law_true : ∀ ns : List Int, ns.length ≤ 63 → mScr 5 g_law ns = some (.bool true) := by
  intro ns hns
  refine mScr_of ?_; walk_at "i"; unfold g_law
  walk_at "e"
  obtain ⟨cs, e, hR⟩ := x_reel hns
  refine Ed.of e ?_
  walk_at "e"
  refine ⟨by omega, by omega, ?_⟩
  refine eo_loop (fun i S => ∃ x2 x3 x4 cs, S = ⟨[some (.scr ns), some (.own 0), x2, x3, x4], [some (.lst cs)]⟩ ∧ Reel (4294967296 - 1000 * i) cs) ⟨_, _, _, _, rfl, hR⟩ ?_ ?_
  · rintro i z S hz ⟨x2, x3, x4, cs, rfl, hR⟩
    obtain ⟨hi, rfl⟩ := rng_at hz
    walk_at "e"
    refine ev_IO ⟨_, rfl, ?_⟩
    walk_at "e"
    obtain ⟨d, cs', e, p, ls, rfl, hw, p1, l1, hR⟩ := x__law_net_k05 (most := 58) (by decide) (by decide) hR (by omega)
    refine ⟨_, _, e, ?_⟩
    refine es_tup2 (d := .int p) (e := .tuple (ls.map ln)) ?_
    walk_at "e"
    refine ev_IO ⟨_, rfl, ?_⟩
    walk_at "e"
    have hw2 : WbOk (max p 1) ls := ⟨by omega, fun l hl => by
      have := hw.all l hl
      exact ⟨this.a0, by have := this.a1; omega, this.b0, by have := this.b1; omega, this.c⟩, hw.len⟩
    obtain ⟨z, cs, e, rfl, hR⟩ := x__law_right_k07 hw2 (by omega) (by omega) (by omega) hR (by omega)
    refine ⟨_, _, e, ?_⟩
    walk_at "e"
    exact ⟨_, _, _, cs, rfl, hR.mono (by omega)⟩
  · rintro S ⟨x2, x3, x4, cs, rfl, hR⟩
    walk_at "e"
    exact ⟨_, rfl⟩
end Lw.k07

set_option maxHeartbeats 16000000
namespace Lw.k07
open PySem PySem.Spec PyProof.Rows L2 RZ Fu Lw
theorem all_mk {l : PySem.W.OpenLaw} {w : World} {K : PySem.W.Frag} {h : Heap} {mg : Str → Option Value} {fa : Addr} (X : K.In h) (G : h.Ns mainGlobals mg) (hfa : mg "law" = some (.ref fa))
    {f__law_reel : Addr} {od__law_reel an__law_reel : Option Addr} {sl__law_reel : Array (Option Value)} {oc__law_reel kV__law_reel dc__law_reel pm__law_reel cd__law_reel ct__law_reel : Value}
    (a__law_reel : PySem.W.nsIn K mainGlobals "_law_reel" = some (some (.ref f__law_reel)))
    (l__law_reel : K.lookup f__law_reel = some ⟨oc__law_reel, od__law_reel, .func (PySem.W.fnOf "_law_reel" "_law_reel" (defArgs s__law_reel) (defBody s__law_reel) (defScope s__law_reel) .none kV__law_reel dc__law_reel pm__law_reel an__law_reel cd__law_reel ct__law_reel), sl__law_reel⟩)
    (c__law_reel : PySem.W.codeIn K cd__law_reel "_law_reel" = true)
    (k__law_reel : PySem.W.keepIn K (.ref f__law_reel) = true)
    {f__law_draw : Addr} {od__law_draw an__law_draw : Option Addr} {sl__law_draw : Array (Option Value)} {oc__law_draw kV__law_draw dc__law_draw pm__law_draw cd__law_draw ct__law_draw : Value}
    (a__law_draw : PySem.W.nsIn K mainGlobals "_law_draw" = some (some (.ref f__law_draw)))
    (l__law_draw : K.lookup f__law_draw = some ⟨oc__law_draw, od__law_draw, .func (PySem.W.fnOf "_law_draw" "_law_draw" (defArgs s__law_draw) (defBody s__law_draw) (defScope s__law_draw) .none kV__law_draw dc__law_draw pm__law_draw an__law_draw cd__law_draw ct__law_draw), sl__law_draw⟩)
    (c__law_draw : PySem.W.codeIn K cd__law_draw "_law_draw" = true)
    (k__law_draw : PySem.W.keepIn K (.ref f__law_draw) = true)
    {f__law_net : Addr} {od__law_net an__law_net : Option Addr} {sl__law_net : Array (Option Value)} {oc__law_net kV__law_net dc__law_net pm__law_net cd__law_net ct__law_net : Value}
    (a__law_net : PySem.W.nsIn K mainGlobals "_law_net" = some (some (.ref f__law_net)))
    (l__law_net : K.lookup f__law_net = some ⟨oc__law_net, od__law_net, .func (PySem.W.fnOf "_law_net" "_law_net" (defArgs s__law_net) (defBody s__law_net) (defScope s__law_net) .none kV__law_net dc__law_net pm__law_net an__law_net cd__law_net ct__law_net), sl__law_net⟩)
    (c__law_net : PySem.W.codeIn K cd__law_net "_law_net" = true)
    (k__law_net : PySem.W.keepIn K (.ref f__law_net) = true)
    {f_hangs_on : Addr} {od_hangs_on an_hangs_on : Option Addr} {sl_hangs_on : Array (Option Value)} {oc_hangs_on kV_hangs_on dc_hangs_on pm_hangs_on cd_hangs_on ct_hangs_on : Value}
    (a_hangs_on : PySem.W.nsIn K mainGlobals "hangs_on" = some (some (.ref f_hangs_on)))
    (l_hangs_on : K.lookup f_hangs_on = some ⟨oc_hangs_on, od_hangs_on, .func (PySem.W.fnOf "hangs_on" "hangs_on" (defArgs s_hangs_on) (defBody s_hangs_on) (defScope s_hangs_on) .none kV_hangs_on dc_hangs_on pm_hangs_on an_hangs_on cd_hangs_on ct_hangs_on), sl_hangs_on⟩)
    (c_hangs_on : PySem.W.codeIn K cd_hangs_on "hangs_on" = true)
    (k_hangs_on : PySem.W.keepIn K (.ref f_hangs_on) = true)
    {f_parts_of : Addr} {od_parts_of an_parts_of : Option Addr} {sl_parts_of : Array (Option Value)} {oc_parts_of kV_parts_of dc_parts_of pm_parts_of cd_parts_of ct_parts_of : Value}
    (a_parts_of : PySem.W.nsIn K mainGlobals "parts_of" = some (some (.ref f_parts_of)))
    (l_parts_of : K.lookup f_parts_of = some ⟨oc_parts_of, od_parts_of, .func (PySem.W.fnOf "parts_of" "parts_of" (defArgs s_parts_of) (defBody s_parts_of) (defScope s_parts_of) .none kV_parts_of dc_parts_of pm_parts_of an_parts_of cd_parts_of ct_parts_of), sl_parts_of⟩)
    (c_parts_of : PySem.W.codeIn K cd_parts_of "parts_of" = true)
    (k_parts_of : PySem.W.keepIn K (.ref f_parts_of) = true)
    {f_is_whole : Addr} {od_is_whole an_is_whole : Option Addr} {sl_is_whole : Array (Option Value)} {oc_is_whole kV_is_whole dc_is_whole pm_is_whole cd_is_whole ct_is_whole : Value}
    (a_is_whole : PySem.W.nsIn K mainGlobals "is_whole" = some (some (.ref f_is_whole)))
    (l_is_whole : K.lookup f_is_whole = some ⟨oc_is_whole, od_is_whole, .func (PySem.W.fnOf "is_whole" "is_whole" (defArgs s_is_whole) (defBody s_is_whole) (defScope s_is_whole) .none kV_is_whole dc_is_whole pm_is_whole an_is_whole cd_is_whole ct_is_whole), sl_is_whole⟩)
    (c_is_whole : PySem.W.codeIn K cd_is_whole "is_whole" = true)
    (k_is_whole : PySem.W.keepIn K (.ref f_is_whole) = true)
    {f_need_place : Addr} {od_need_place an_need_place : Option Addr} {sl_need_place : Array (Option Value)} {oc_need_place kV_need_place dc_need_place pm_need_place cd_need_place ct_need_place : Value}
    (a_need_place : PySem.W.nsIn K mainGlobals "need_place" = some (some (.ref f_need_place)))
    (l_need_place : K.lookup f_need_place = some ⟨oc_need_place, od_need_place, .func (PySem.W.fnOf "need_place" "need_place" (defArgs s_need_place) (defBody s_need_place) (defScope s_need_place) .none kV_need_place dc_need_place pm_need_place an_need_place cd_need_place ct_need_place), sl_need_place⟩)
    (c_need_place : PySem.W.codeIn K cd_need_place "need_place" = true)
    (k_need_place : PySem.W.keepIn K (.ref f_need_place) = true)
    {f_all_ends : Addr} {od_all_ends an_all_ends : Option Addr} {sl_all_ends : Array (Option Value)} {oc_all_ends kV_all_ends dc_all_ends pm_all_ends cd_all_ends ct_all_ends : Value}
    (a_all_ends : PySem.W.nsIn K mainGlobals "all_ends" = some (some (.ref f_all_ends)))
    (l_all_ends : K.lookup f_all_ends = some ⟨oc_all_ends, od_all_ends, .func (PySem.W.fnOf "all_ends" "all_ends" (defArgs s_all_ends) (defBody s_all_ends) (defScope s_all_ends) .none kV_all_ends dc_all_ends pm_all_ends an_all_ends cd_all_ends ct_all_ends), sl_all_ends⟩)
    (c_all_ends : PySem.W.codeIn K cd_all_ends "all_ends" = true)
    (k_all_ends : PySem.W.keepIn K (.ref f_all_ends) = true)
    {f_place_of : Addr} {od_place_of an_place_of : Option Addr} {sl_place_of : Array (Option Value)} {oc_place_of kV_place_of dc_place_of pm_place_of cd_place_of ct_place_of : Value}
    (a_place_of : PySem.W.nsIn K mainGlobals "place_of" = some (some (.ref f_place_of)))
    (l_place_of : K.lookup f_place_of = some ⟨oc_place_of, od_place_of, .func (PySem.W.fnOf "place_of" "place_of" (defArgs s_place_of) (defBody s_place_of) (defScope s_place_of) .none kV_place_of dc_place_of pm_place_of an_place_of cd_place_of ct_place_of), sl_place_of⟩)
    (c_place_of : PySem.W.codeIn K cd_place_of "place_of" = true)
    (k_place_of : PySem.W.keepIn K (.ref f_place_of) = true)
    {f_ends_at : Addr} {od_ends_at an_ends_at : Option Addr} {sl_ends_at : Array (Option Value)} {oc_ends_at kV_ends_at dc_ends_at pm_ends_at cd_ends_at ct_ends_at : Value}
    (a_ends_at : PySem.W.nsIn K mainGlobals "ends_at" = some (some (.ref f_ends_at)))
    (l_ends_at : K.lookup f_ends_at = some ⟨oc_ends_at, od_ends_at, .func (PySem.W.fnOf "ends_at" "ends_at" (defArgs s_ends_at) (defBody s_ends_at) (defScope s_ends_at) .none kV_ends_at dc_ends_at pm_ends_at an_ends_at cd_ends_at ct_ends_at), sl_ends_at⟩)
    (c_ends_at : PySem.W.codeIn K cd_ends_at "ends_at" = true)
    (k_ends_at : PySem.W.keepIn K (.ref f_ends_at) = true)
    {f__law_touching : Addr} {od__law_touching an__law_touching : Option Addr} {sl__law_touching : Array (Option Value)} {oc__law_touching kV__law_touching dc__law_touching pm__law_touching cd__law_touching ct__law_touching : Value}
    (a__law_touching : PySem.W.nsIn K mainGlobals "_law_touching" = some (some (.ref f__law_touching)))
    (l__law_touching : K.lookup f__law_touching = some ⟨oc__law_touching, od__law_touching, .func (PySem.W.fnOf "_law_touching" "_law_touching" (defArgs s__law_touching) (defBody s__law_touching) (defScope s__law_touching) .none kV__law_touching dc__law_touching pm__law_touching an__law_touching cd__law_touching ct__law_touching), sl__law_touching⟩)
    (c__law_touching : PySem.W.codeIn K cd__law_touching "_law_touching" = true)
    (k__law_touching : PySem.W.keepIn K (.ref f__law_touching) = true)
    {f_is_company : Addr} {od_is_company an_is_company : Option Addr} {sl_is_company : Array (Option Value)} {oc_is_company kV_is_company dc_is_company pm_is_company cd_is_company ct_is_company : Value}
    (a_is_company : PySem.W.nsIn K mainGlobals "is_company" = some (some (.ref f_is_company)))
    (l_is_company : K.lookup f_is_company = some ⟨oc_is_company, od_is_company, .func (PySem.W.fnOf "is_company" "is_company" (defArgs s_is_company) (defBody s_is_company) (defScope s_is_company) .none kV_is_company dc_is_company pm_is_company an_is_company cd_is_company ct_is_company), sl_is_company⟩)
    (c_is_company : PySem.W.codeIn K cd_is_company "is_company" = true)
    (k_is_company : PySem.W.keepIn K (.ref f_is_company) = true)
    {f_need_company : Addr} {od_need_company an_need_company : Option Addr} {sl_need_company : Array (Option Value)} {oc_need_company kV_need_company dc_need_company pm_need_company cd_need_company ct_need_company : Value}
    (a_need_company : PySem.W.nsIn K mainGlobals "need_company" = some (some (.ref f_need_company)))
    (l_need_company : K.lookup f_need_company = some ⟨oc_need_company, od_need_company, .func (PySem.W.fnOf "need_company" "need_company" (defArgs s_need_company) (defBody s_need_company) (defScope s_need_company) .none kV_need_company dc_need_company pm_need_company an_need_company cd_need_company ct_need_company), sl_need_company⟩)
    (c_need_company : PySem.W.codeIn K cd_need_company "need_company" = true)
    (k_need_company : PySem.W.keepIn K (.ref f_need_company) = true)
    {f_is_row : Addr} {od_is_row an_is_row : Option Addr} {sl_is_row : Array (Option Value)} {oc_is_row kV_is_row dc_is_row pm_is_row cd_is_row ct_is_row : Value}
    (a_is_row : PySem.W.nsIn K mainGlobals "is_row" = some (some (.ref f_is_row)))
    (l_is_row : K.lookup f_is_row = some ⟨oc_is_row, od_is_row, .func (PySem.W.fnOf "is_row" "is_row" (defArgs s_is_row) (defBody s_is_row) (defScope s_is_row) .none kV_is_row dc_is_row pm_is_row an_is_row cd_is_row ct_is_row), sl_is_row⟩)
    (c_is_row : PySem.W.codeIn K cd_is_row "is_row" = true)
    (k_is_row : PySem.W.keepIn K (.ref f_is_row) = true)
    {f_is_line_of : Addr} {od_is_line_of an_is_line_of : Option Addr} {sl_is_line_of : Array (Option Value)} {oc_is_line_of kV_is_line_of dc_is_line_of pm_is_line_of cd_is_line_of ct_is_line_of : Value}
    (a_is_line_of : PySem.W.nsIn K mainGlobals "is_line_of" = some (some (.ref f_is_line_of)))
    (l_is_line_of : K.lookup f_is_line_of = some ⟨oc_is_line_of, od_is_line_of, .func (PySem.W.fnOf "is_line_of" "is_line_of" (defArgs s_is_line_of) (defBody s_is_line_of) (defScope s_is_line_of) .none kV_is_line_of dc_is_line_of pm_is_line_of an_is_line_of cd_is_line_of ct_is_line_of), sl_is_line_of⟩)
    (c_is_line_of : PySem.W.codeIn K cd_is_line_of "is_line_of" = true)
    (k_is_line_of : PySem.W.keepIn K (.ref f_is_line_of) = true)
    {f_web_of : Addr} {od_web_of an_web_of : Option Addr} {sl_web_of : Array (Option Value)} {oc_web_of kV_web_of dc_web_of pm_web_of cd_web_of ct_web_of : Value}
    (a_web_of : PySem.W.nsIn K mainGlobals "web_of" = some (some (.ref f_web_of)))
    (l_web_of : K.lookup f_web_of = some ⟨oc_web_of, od_web_of, .func (PySem.W.fnOf "web_of" "web_of" (defArgs s_web_of) (defBody s_web_of) (defScope s_web_of) .none kV_web_of dc_web_of pm_web_of an_web_of cd_web_of ct_web_of), sl_web_of⟩)
    (c_web_of : PySem.W.codeIn K cd_web_of "web_of" = true)
    (k_web_of : PySem.W.keepIn K (.ref f_web_of) = true)
    {f_kept : Addr} {od_kept an_kept : Option Addr} {sl_kept : Array (Option Value)} {oc_kept kV_kept dc_kept pm_kept cd_kept ct_kept : Value}
    (a_kept : PySem.W.nsIn K mainGlobals "kept" = some (some (.ref f_kept)))
    (l_kept : K.lookup f_kept = some ⟨oc_kept, od_kept, .func (PySem.W.fnOf "kept" "kept" (defArgs s_kept) (defBody s_kept) (defScope s_kept) .none kV_kept dc_kept pm_kept an_kept cd_kept ct_kept), sl_kept⟩)
    (c_kept : PySem.W.codeIn K cd_kept "kept" = true)
    (k_kept : PySem.W.keepIn K (.ref f_kept) = true)
    {f_with_line : Addr} {od_with_line an_with_line : Option Addr} {sl_with_line : Array (Option Value)} {oc_with_line kV_with_line dc_with_line pm_with_line cd_with_line ct_with_line : Value}
    (a_with_line : PySem.W.nsIn K mainGlobals "with_line" = some (some (.ref f_with_line)))
    (l_with_line : K.lookup f_with_line = some ⟨oc_with_line, od_with_line, .func (PySem.W.fnOf "with_line" "with_line" (defArgs s_with_line) (defBody s_with_line) (defScope s_with_line) .none kV_with_line dc_with_line pm_with_line an_with_line cd_with_line ct_with_line), sl_with_line⟩)
    (c_with_line : PySem.W.codeIn K cd_with_line "with_line" = true)
    (k_with_line : PySem.W.keepIn K (.ref f_with_line) = true)
    {f_need_line : Addr} {od_need_line an_need_line : Option Addr} {sl_need_line : Array (Option Value)} {oc_need_line kV_need_line dc_need_line pm_need_line cd_need_line ct_need_line : Value}
    (a_need_line : PySem.W.nsIn K mainGlobals "need_line" = some (some (.ref f_need_line)))
    (l_need_line : K.lookup f_need_line = some ⟨oc_need_line, od_need_line, .func (PySem.W.fnOf "need_line" "need_line" (defArgs s_need_line) (defBody s_need_line) (defScope s_need_line) .none kV_need_line dc_need_line pm_need_line an_need_line cd_need_line ct_need_line), sl_need_line⟩)
    (c_need_line : PySem.W.codeIn K cd_need_line "need_line" = true)
    (k_need_line : PySem.W.keepIn K (.ref f_need_line) = true)
    {f_painted : Addr} {od_painted an_painted : Option Addr} {sl_painted : Array (Option Value)} {oc_painted kV_painted dc_painted pm_painted cd_painted ct_painted : Value}
    (a_painted : PySem.W.nsIn K mainGlobals "painted" = some (some (.ref f_painted)))
    (l_painted : K.lookup f_painted = some ⟨oc_painted, od_painted, .func (PySem.W.fnOf "painted" "painted" (defArgs s_painted) (defBody s_painted) (defScope s_painted) .none kV_painted dc_painted pm_painted an_painted cd_painted ct_painted), sl_painted⟩)
    (c_painted : PySem.W.codeIn K cd_painted "painted" = true)
    (k_painted : PySem.W.keepIn K (.ref f_painted) = true)
    {f_merged : Addr} {od_merged an_merged : Option Addr} {sl_merged : Array (Option Value)} {oc_merged kV_merged dc_merged pm_merged cd_merged ct_merged : Value}
    (a_merged : PySem.W.nsIn K mainGlobals "merged" = some (some (.ref f_merged)))
    (l_merged : K.lookup f_merged = some ⟨oc_merged, od_merged, .func (PySem.W.fnOf "merged" "merged" (defArgs s_merged) (defBody s_merged) (defScope s_merged) .none kV_merged dc_merged pm_merged an_merged cd_merged ct_merged), sl_merged⟩)
    (c_merged : PySem.W.codeIn K cd_merged "merged" = true)
    (k_merged : PySem.W.keepIn K (.ref f_merged) = true)
    {f_is_end : Addr} {od_is_end an_is_end : Option Addr} {sl_is_end : Array (Option Value)} {oc_is_end kV_is_end dc_is_end pm_is_end cd_is_end ct_is_end : Value}
    (a_is_end : PySem.W.nsIn K mainGlobals "is_end" = some (some (.ref f_is_end)))
    (l_is_end : K.lookup f_is_end = some ⟨oc_is_end, od_is_end, .func (PySem.W.fnOf "is_end" "is_end" (defArgs s_is_end) (defBody s_is_end) (defScope s_is_end) .none kV_is_end dc_is_end pm_is_end an_is_end cd_is_end ct_is_end), sl_is_end⟩)
    (c_is_end : PySem.W.codeIn K cd_is_end "is_end" = true)
    (k_is_end : PySem.W.keepIn K (.ref f_is_end) = true)
    {f_need_end : Addr} {od_need_end an_need_end : Option Addr} {sl_need_end : Array (Option Value)} {oc_need_end kV_need_end dc_need_end pm_need_end cd_need_end ct_need_end : Value}
    (a_need_end : PySem.W.nsIn K mainGlobals "need_end" = some (some (.ref f_need_end)))
    (l_need_end : K.lookup f_need_end = some ⟨oc_need_end, od_need_end, .func (PySem.W.fnOf "need_end" "need_end" (defArgs s_need_end) (defBody s_need_end) (defScope s_need_end) .none kV_need_end dc_need_end pm_need_end an_need_end cd_need_end ct_need_end), sl_need_end⟩)
    (c_need_end : PySem.W.codeIn K cd_need_end "need_end" = true)
    (k_need_end : PySem.W.keepIn K (.ref f_need_end) = true)
    {f_loosened : Addr} {od_loosened an_loosened : Option Addr} {sl_loosened : Array (Option Value)} {oc_loosened kV_loosened dc_loosened pm_loosened cd_loosened ct_loosened : Value}
    (a_loosened : PySem.W.nsIn K mainGlobals "loosened" = some (some (.ref f_loosened)))
    (l_loosened : K.lookup f_loosened = some ⟨oc_loosened, od_loosened, .func (PySem.W.fnOf "loosened" "loosened" (defArgs s_loosened) (defBody s_loosened) (defScope s_loosened) .none kV_loosened dc_loosened pm_loosened an_loosened cd_loosened ct_loosened), sl_loosened⟩)
    (c_loosened : PySem.W.codeIn K cd_loosened "loosened" = true)
    (k_loosened : PySem.W.keepIn K (.ref f_loosened) = true)
    {f_without_line : Addr} {od_without_line an_without_line : Option Addr} {sl_without_line : Array (Option Value)} {oc_without_line kV_without_line dc_without_line pm_without_line cd_without_line ct_without_line : Value}
    (a_without_line : PySem.W.nsIn K mainGlobals "without_line" = some (some (.ref f_without_line)))
    (l_without_line : K.lookup f_without_line = some ⟨oc_without_line, od_without_line, .func (PySem.W.fnOf "without_line" "without_line" (defArgs s_without_line) (defBody s_without_line) (defScope s_without_line) .none kV_without_line dc_without_line pm_without_line an_without_line cd_without_line ct_without_line), sl_without_line⟩)
    (c_without_line : PySem.W.codeIn K cd_without_line "without_line" = true)
    (k_without_line : PySem.W.keepIn K (.ref f_without_line) = true)
    {f__law_right : Addr} {od__law_right an__law_right : Option Addr} {sl__law_right : Array (Option Value)} {oc__law_right kV__law_right dc__law_right pm__law_right cd__law_right ct__law_right : Value}
    (a__law_right : PySem.W.nsIn K mainGlobals "_law_right" = some (some (.ref f__law_right)))
    (l__law_right : K.lookup f__law_right = some ⟨oc__law_right, od__law_right, .func (PySem.W.fnOf "_law_right" "_law_right" (defArgs s__law_right) (defBody s__law_right) (defScope s__law_right) .none kV__law_right dc__law_right pm__law_right an__law_right cd__law_right ct__law_right), sl__law_right⟩)
    (c__law_right : PySem.W.codeIn K cd__law_right "_law_right" = true)
    (k__law_right : PySem.W.keepIn K (.ref f__law_right) = true)
    {f_law : Addr} {od_law an_law : Option Addr} {sl_law : Array (Option Value)} {oc_law kV_law dc_law pm_law cd_law ct_law : Value}
    (a_law : PySem.W.nsIn K mainGlobals "law" = some (some (.ref f_law)))
    (l_law : K.lookup f_law = some ⟨oc_law, od_law, .func (PySem.W.fnOf "law" "law" (defArgs s_law) (defBody s_law) (defScope s_law) .none kV_law dc_law pm_law an_law cd_law ct_law), sl_law⟩)
    (c_law : PySem.W.codeIn K cd_law "law" = true)
    (k_law : PySem.W.keepIn K (.ref f_law) = true)
    (z_all : PySem.W.nsIn K mainGlobals "all" = some none)
    (z_any : PySem.W.nsIn K mainGlobals "any" = some none)
    (z_bool : PySem.W.nsIn K mainGlobals "bool" = some none)
    (z_int : PySem.W.nsIn K mainGlobals "int" = some none)
    (z_isinstance : PySem.W.nsIn K mainGlobals "isinstance" = some none)
    (z_len : PySem.W.nsIn K mainGlobals "len" = some none)
    (z_list : PySem.W.nsIn K mainGlobals "list" = some none)
    (z_max : PySem.W.nsIn K mainGlobals "max" = some none)
    (z_min : PySem.W.nsIn K mainGlobals "min" = some none)
    (z_range : PySem.W.nsIn K mainGlobals "range" = some none)
    (z_sorted : PySem.W.nsIn K mainGlobals "sorted" = some none)
    (z_str : PySem.W.nsIn K mainGlobals "str" = some none)
    (z_sum : PySem.W.nsIn K mainGlobals "sum" = some none)
    (z_tuple : PySem.W.nsIn K mainGlobals "tuple" = some none)
    {t_LETTERS : Tok}
    (n_LETTERS : PySem.W.nsIn K mainGlobals "LETTERS" = some (some (.str "abcdefghijklmnopqrstuvwxyz" t_LETTERS)))
    {t_SIDES : Tok}
    (n_SIDES : PySem.W.nsIn K mainGlobals "SIDES" = some (some (.int 2 t_SIDES)))
    : ∃ fd : FuncData, (∀ (s : Shared) (v : Value), BindsTo s fd ⟨[v], []⟩ [("script", v)]) ∧ ∀ base : Heap, K.In base → base.Ns mainGlobals mg → FnOk l.prog w K mg base CX0 7 fa fd ["script"] (spLaw K (mScr 5 g_law)) := by
  have e := hfa.symm.trans (PySem.W.mg_of X G a_law)
  cases e
  have T : Tx K mg := {
    d__law_reel := ⟨_, _, PySem.W.mg_of X G a__law_reel, fun_mk (st := s__law_reel) l__law_reel c__law_reel k__law_reel, (fun_mk (st := s__law_reel) l__law_reel c__law_reel k__law_reel).binds (ps := ["script"]) fun _ _ _ _ _ _ us hl => match us, hl with | [_], _ => rfl⟩
    d__law_draw := ⟨_, _, PySem.W.mg_of X G a__law_draw, fun_mk (st := s__law_draw) l__law_draw c__law_draw k__law_draw, (fun_mk (st := s__law_draw) l__law_draw c__law_draw k__law_draw).binds (ps := ["reel", "many"]) fun _ _ _ _ _ _ us hl => match us, hl with | [_, _], _ => rfl⟩
    d__law_net := ⟨_, _, PySem.W.mg_of X G a__law_net, fun_mk (st := s__law_net) l__law_net c__law_net k__law_net, (fun_mk (st := s__law_net) l__law_net c__law_net k__law_net).binds (ps := ["reel", "most"]) fun _ _ _ _ _ _ us hl => match us, hl with | [_, _], _ => rfl⟩
    d_hangs_on := ⟨_, _, PySem.W.mg_of X G a_hangs_on, fun_mk (st := s_hangs_on) l_hangs_on c_hangs_on k_hangs_on, (fun_mk (st := s_hangs_on) l_hangs_on c_hangs_on k_hangs_on).binds (ps := ["web", "part", "line"]) fun _ _ _ _ _ _ us hl => match us, hl with | [_, _, _], _ => rfl⟩
    d_parts_of := ⟨_, _, PySem.W.mg_of X G a_parts_of, fun_mk (st := s_parts_of) l_parts_of c_parts_of k_parts_of, (fun_mk (st := s_parts_of) l_parts_of c_parts_of k_parts_of).binds (ps := ["web"]) fun _ _ _ _ _ _ us hl => match us, hl with | [_], _ => rfl⟩
    d_is_whole := ⟨_, _, PySem.W.mg_of X G a_is_whole, fun_mk (st := s_is_whole) l_is_whole c_is_whole k_is_whole, (fun_mk (st := s_is_whole) l_is_whole c_is_whole k_is_whole).binds (ps := ["thing"]) fun _ _ _ _ _ _ us hl => match us, hl with | [_], _ => rfl⟩
    d_need_place := ⟨_, _, PySem.W.mg_of X G a_need_place, fun_mk (st := s_need_place) l_need_place c_need_place k_need_place, (fun_mk (st := s_need_place) l_need_place c_need_place k_need_place).binds (ps := ["web", "place"]) fun _ _ _ _ _ _ us hl => match us, hl with | [_, _], _ => rfl⟩
    d_all_ends := ⟨_, _, PySem.W.mg_of X G a_all_ends, fun_mk (st := s_all_ends) l_all_ends c_all_ends k_all_ends, (fun_mk (st := s_all_ends) l_all_ends c_all_ends k_all_ends).binds (ps := ["web"]) fun _ _ _ _ _ _ us hl => match us, hl with | [_], _ => rfl⟩
    d_place_of := ⟨_, _, PySem.W.mg_of X G a_place_of, fun_mk (st := s_place_of) l_place_of c_place_of k_place_of, (fun_mk (st := s_place_of) l_place_of c_place_of k_place_of).binds (ps := ["web", "end"]) fun _ _ _ _ _ _ us hl => match us, hl with | [_, _], _ => rfl⟩
    d_ends_at := ⟨_, _, PySem.W.mg_of X G a_ends_at, fun_mk (st := s_ends_at) l_ends_at c_ends_at k_ends_at, (fun_mk (st := s_ends_at) l_ends_at c_ends_at k_ends_at).binds (ps := ["web", "place"]) fun _ _ _ _ _ _ us hl => match us, hl with | [_, _], _ => rfl⟩
    d__law_touching := ⟨_, _, PySem.W.mg_of X G a__law_touching, fun_mk (st := s__law_touching) l__law_touching c__law_touching k__law_touching, (fun_mk (st := s__law_touching) l__law_touching c__law_touching k__law_touching).binds (ps := ["net", "parts", "place"]) fun _ _ _ _ _ _ us hl => match us, hl with | [_, _, _], _ => rfl⟩
    d_is_company := ⟨_, _, PySem.W.mg_of X G a_is_company, fun_mk (st := s_is_company) l_is_company c_is_company k_is_company, (fun_mk (st := s_is_company) l_is_company c_is_company k_is_company).binds (ps := ["thing"]) fun _ _ _ _ _ _ us hl => match us, hl with | [_], _ => rfl⟩
    d_need_company := ⟨_, _, PySem.W.mg_of X G a_need_company, fun_mk (st := s_need_company) l_need_company c_need_company k_need_company, (fun_mk (st := s_need_company) l_need_company c_need_company k_need_company).binds (ps := ["company"]) fun _ _ _ _ _ _ us hl => match us, hl with | [_], _ => rfl⟩
    d_is_row := ⟨_, _, PySem.W.mg_of X G a_is_row, fun_mk (st := s_is_row) l_is_row c_is_row k_is_row, (fun_mk (st := s_is_row) l_is_row c_is_row k_is_row).binds (ps := ["thing", "size"]) fun _ _ _ _ _ _ us hl => match us, hl with | [_, _], _ => rfl⟩
    d_is_line_of := ⟨_, _, PySem.W.mg_of X G a_is_line_of, fun_mk (st := s_is_line_of) l_is_line_of c_is_line_of k_is_line_of, (fun_mk (st := s_is_line_of) l_is_line_of c_is_line_of k_is_line_of).binds (ps := ["places", "thing"]) fun _ _ _ _ _ _ us hl => match us, hl with | [_, _], _ => rfl⟩
    d_web_of := ⟨_, _, PySem.W.mg_of X G a_web_of, fun_mk (st := s_web_of) l_web_of c_web_of k_web_of, (fun_mk (st := s_web_of) l_web_of c_web_of k_web_of).binds (ps := ["places", "lines"]) fun _ _ _ _ _ _ us hl => match us, hl with | [_, _], _ => rfl⟩
    d_kept := ⟨_, _, PySem.W.mg_of X G a_kept, fun_mk (st := s_kept) l_kept c_kept k_kept, (fun_mk (st := s_kept) l_kept c_kept k_kept).binds (ps := ["web"]) fun _ _ _ _ _ _ us hl => match us, hl with | [_], _ => rfl⟩
    d_with_line := ⟨_, _, PySem.W.mg_of X G a_with_line, fun_mk (st := s_with_line) l_with_line c_with_line k_with_line, (fun_mk (st := s_with_line) l_with_line c_with_line k_with_line).binds (ps := ["web", "one", "other", "company"]) fun _ _ _ _ _ _ us hl => match us, hl with | [_, _, _, _], _ => rfl⟩
    d_need_line := ⟨_, _, PySem.W.mg_of X G a_need_line, fun_mk (st := s_need_line) l_need_line c_need_line k_need_line, (fun_mk (st := s_need_line) l_need_line c_need_line k_need_line).binds (ps := ["web", "line"]) fun _ _ _ _ _ _ us hl => match us, hl with | [_, _], _ => rfl⟩
    d_painted := ⟨_, _, PySem.W.mg_of X G a_painted, fun_mk (st := s_painted) l_painted c_painted k_painted, (fun_mk (st := s_painted) l_painted c_painted k_painted).binds (ps := ["web", "line", "company"]) fun _ _ _ _ _ _ us hl => match us, hl with | [_, _, _], _ => rfl⟩
    d_merged := ⟨_, _, PySem.W.mg_of X G a_merged, fun_mk (st := s_merged) l_merged c_merged k_merged, (fun_mk (st := s_merged) l_merged c_merged k_merged).binds (ps := ["web", "company", "other"]) fun _ _ _ _ _ _ us hl => match us, hl with | [_, _, _], _ => rfl⟩
    d_is_end := ⟨_, _, PySem.W.mg_of X G a_is_end, fun_mk (st := s_is_end) l_is_end c_is_end k_is_end, (fun_mk (st := s_is_end) l_is_end c_is_end k_is_end).binds (ps := ["web", "thing"]) fun _ _ _ _ _ _ us hl => match us, hl with | [_, _], _ => rfl⟩
    d_need_end := ⟨_, _, PySem.W.mg_of X G a_need_end, fun_mk (st := s_need_end) l_need_end c_need_end k_need_end, (fun_mk (st := s_need_end) l_need_end c_need_end k_need_end).binds (ps := ["web", "end"]) fun _ _ _ _ _ _ us hl => match us, hl with | [_, _], _ => rfl⟩
    d_loosened := ⟨_, _, PySem.W.mg_of X G a_loosened, fun_mk (st := s_loosened) l_loosened c_loosened k_loosened, (fun_mk (st := s_loosened) l_loosened c_loosened k_loosened).binds (ps := ["web", "end"]) fun _ _ _ _ _ _ us hl => match us, hl with | [_, _], _ => rfl⟩
    d_without_line := ⟨_, _, PySem.W.mg_of X G a_without_line, fun_mk (st := s_without_line) l_without_line c_without_line k_without_line, (fun_mk (st := s_without_line) l_without_line c_without_line k_without_line).binds (ps := ["web", "line"]) fun _ _ _ _ _ _ us hl => match us, hl with | [_, _], _ => rfl⟩
    d__law_right := ⟨_, _, PySem.W.mg_of X G a__law_right, fun_mk (st := s__law_right) l__law_right c__law_right k__law_right, (fun_mk (st := s__law_right) l__law_right c__law_right k__law_right).binds (ps := ["reel", "net"]) fun _ _ _ _ _ _ us hl => match us, hl with | [_, _], _ => rfl⟩
    d_law := ⟨_, _, PySem.W.mg_of X G a_law, fun_mk (st := s_law) l_law c_law k_law, (fun_mk (st := s_law) l_law c_law k_law).binds (ps := ["script"]) fun _ _ _ _ _ _ us hl => match us, hl with | [_], _ => rfl⟩
    z_all := PySem.W.mg_none_of X G z_all
    z_any := PySem.W.mg_none_of X G z_any
    z_bool := PySem.W.mg_none_of X G z_bool
    z_int := PySem.W.mg_none_of X G z_int
    z_isinstance := PySem.W.mg_none_of X G z_isinstance
    z_len := PySem.W.mg_none_of X G z_len
    z_list := PySem.W.mg_none_of X G z_list
    z_max := PySem.W.mg_none_of X G z_max
    z_min := PySem.W.mg_none_of X G z_min
    z_range := PySem.W.mg_none_of X G z_range
    z_sorted := PySem.W.mg_none_of X G z_sorted
    z_str := PySem.W.mg_none_of X G z_str
    z_sum := PySem.W.mg_none_of X G z_sum
    z_tuple := PySem.W.mg_none_of X G z_tuple
    c_LETTERS := ⟨_, PySem.W.mg_of X G n_LETTERS⟩
    c_SIDES := ⟨_, PySem.W.mg_of X G n_SIDES⟩
  }
  exact ⟨PySem.W.fnOf "law" "law" (defArgs s_law) (defBody s_law) (defScope s_law) .none kV_law dc_law pm_law an_law cd_law ct_law, fun s v => .of_eq rfl, fun base _ _ => fn_law (fun B hB => trivial) (fun_mk (st := s_law) l_law c_law k_law) sc_law rfl (by decide) (law_body T _)⟩
end Lw.k07
open PySem PySem.W PyProof.Rows
set_option maxHeartbeats 0 in
theorem PySem.Challenge.cw_changeride_k07_whole_parts_under_deeds_holds : PySem.Challenge.rw_changeride_k07_whole_parts_under_deeds.Holds := by
  w_on; o_law; k_head; (case hw => w_witness2)
  k_fill
  refine L2.walk_of (l := PySem.Challenge.rw_changeride_k07_whole_parts_under_deeds) (n := 63) (k := 7) (x := "script") (CX := fun _ => L2.CX0) (sp := fun w => Fu.spLaw _ (Fu.mScr 5 Lw.k07.g_law)) rfl (by decide) rfl ⟨rfl, by decide, by decide⟩ (fun w h Y => PySem.W.kIn_of Y) ?F (fun _ H a ns hl ho hS => ⟨a, ns, rfl, hS, hl, fun b xs e => (by rcases ho b with z | ⟨o, ys, z⟩ <;> rw [e] at z <;> cases z), Lw.k07.law_true ns hl, (fun p hp => nomatch hp), fun _ => rfl⟩) (fun _ _ _ _ _ h => h)
  case F =>
    intro w mg fa h KX G hmg
    refine' Lw.k07.all_mk KX G hmg ?a__law_reel ?l__law_reel ?c__law_reel ?k__law_reel ?a__law_draw ?l__law_draw ?c__law_draw ?k__law_draw ?a__law_net ?l__law_net ?c__law_net ?k__law_net ?a_hangs_on ?l_hangs_on ?c_hangs_on ?k_hangs_on ?a_parts_of ?l_parts_of ?c_parts_of ?k_parts_of ?a_is_whole ?l_is_whole ?c_is_whole ?k_is_whole ?a_need_place ?l_need_place ?c_need_place ?k_need_place ?a_all_ends ?l_all_ends ?c_all_ends ?k_all_ends ?a_place_of ?l_place_of ?c_place_of ?k_place_of ?a_ends_at ?l_ends_at ?c_ends_at ?k_ends_at ?a__law_touching ?l__law_touching ?c__law_touching ?k__law_touching ?a_is_company ?l_is_company ?c_is_company ?k_is_company ?a_need_company ?l_need_company ?c_need_company ?k_need_company ?a_is_row ?l_is_row ?c_is_row ?k_is_row ?a_is_line_of ?l_is_line_of ?c_is_line_of ?k_is_line_of ?a_web_of ?l_web_of ?c_web_of ?k_web_of ?a_kept ?l_kept ?c_kept ?k_kept ?a_with_line ?l_with_line ?c_with_line ?k_with_line ?a_need_line ?l_need_line ?c_need_line ?k_need_line ?a_painted ?l_painted ?c_painted ?k_painted ?a_merged ?l_merged ?c_merged ?k_merged ?a_is_end ?l_is_end ?c_is_end ?k_is_end ?a_need_end ?l_need_end ?c_need_end ?k_need_end ?a_loosened ?l_loosened ?c_loosened ?k_loosened ?a_without_line ?l_without_line ?c_without_line ?k_without_line ?a__law_right ?l__law_right ?c__law_right ?k__law_right ?a_law ?l_law ?c_law ?k_law ?z_all ?z_any ?z_bool ?z_int ?z_isinstance ?z_len ?z_list ?z_max ?z_min ?z_range ?z_sorted ?z_str ?z_sum ?z_tuple ?n_LETTERS ?n_SIDES
    (case a__law_reel => k_is)
    (case l__law_reel => k_is)
    (case c__law_reel => k_is)
    (case k__law_reel => k_is)
    (case a__law_draw => k_is)
    (case l__law_draw => k_is)
    (case c__law_draw => k_is)
    (case k__law_draw => k_is)
    (case a__law_net => k_is)
    (case l__law_net => k_is)
    (case c__law_net => k_is)
    (case k__law_net => k_is)
    (case a_hangs_on => k_is)
    (case l_hangs_on => k_is)
    (case c_hangs_on => k_is)
    (case k_hangs_on => k_is)
    (case a_parts_of => k_is)
    (case l_parts_of => k_is)
    (case c_parts_of => k_is)
    (case k_parts_of => k_is)
    (case a_is_whole => k_is)
    (case l_is_whole => k_is)
    (case c_is_whole => k_is)
    (case k_is_whole => k_is)
    (case a_need_place => k_is)
    (case l_need_place => k_is)
    (case c_need_place => k_is)
    (case k_need_place => k_is)
    (case a_all_ends => k_is)
    (case l_all_ends => k_is)
    (case c_all_ends => k_is)
    (case k_all_ends => k_is)
    (case a_place_of => k_is)
    (case l_place_of => k_is)
    (case c_place_of => k_is)
    (case k_place_of => k_is)
    (case a_ends_at => k_is)
    (case l_ends_at => k_is)
    (case c_ends_at => k_is)
    (case k_ends_at => k_is)
    (case a__law_touching => k_is)
    (case l__law_touching => k_is)
    (case c__law_touching => k_is)
    (case k__law_touching => k_is)
    (case a_is_company => k_is)
    (case l_is_company => k_is)
    (case c_is_company => k_is)
    (case k_is_company => k_is)
    (case a_need_company => k_is)
    (case l_need_company => k_is)
    (case c_need_company => k_is)
    (case k_need_company => k_is)
    (case a_is_row => k_is)
    (case l_is_row => k_is)
    (case c_is_row => k_is)
    (case k_is_row => k_is)
    (case a_is_line_of => k_is)
    (case l_is_line_of => k_is)
    (case c_is_line_of => k_is)
    (case k_is_line_of => k_is)
    (case a_web_of => k_is)
    (case l_web_of => k_is)
    (case c_web_of => k_is)
    (case k_web_of => k_is)
    (case a_kept => k_is)
    (case l_kept => k_is)
    (case c_kept => k_is)
    (case k_kept => k_is)
    (case a_with_line => k_is)
    (case l_with_line => k_is)
    (case c_with_line => k_is)
    (case k_with_line => k_is)
    (case a_need_line => k_is)
    (case l_need_line => k_is)
    (case c_need_line => k_is)
    (case k_need_line => k_is)
    (case a_painted => k_is)
    (case l_painted => k_is)
    (case c_painted => k_is)
    (case k_painted => k_is)
    (case a_merged => k_is)
    (case l_merged => k_is)
    (case c_merged => k_is)
    (case k_merged => k_is)
    (case a_is_end => k_is)
    (case l_is_end => k_is)
    (case c_is_end => k_is)
    (case k_is_end => k_is)
    (case a_need_end => k_is)
    (case l_need_end => k_is)
    (case c_need_end => k_is)
    (case k_need_end => k_is)
    (case a_loosened => k_is)
    (case l_loosened => k_is)
    (case c_loosened => k_is)
    (case k_loosened => k_is)
    (case a_without_line => k_is)
    (case l_without_line => k_is)
    (case c_without_line => k_is)
    (case k_without_line => k_is)
    (case a__law_right => k_is)
    (case l__law_right => k_is)
    (case c__law_right => k_is)
    (case k__law_right => k_is)
    (case a_law => k_is)
    (case l_law => k_is)
    (case c_law => k_is)
    (case k_law => k_is)
    (case z_all => k_is)
    (case z_any => k_is)
    (case z_bool => k_is)
    (case z_int => k_is)
    (case z_isinstance => k_is)
    (case z_len => k_is)
    (case z_list => k_is)
    (case z_max => k_is)
    (case z_min => k_is)
    (case z_range => k_is)
    (case z_sorted => k_is)
    (case z_str => k_is)
    (case z_sum => k_is)
    (case z_tuple => k_is)
    (case n_LETTERS => k_is)
    (case n_SIDES => k_is)
